/- Lemmas. -/
import Derived.Test.YtommaegelgilnaaGreatDoorM38
import Derived.Test.YtommaegelgilnaaGreatDoorM39
set_option linter.all false
namespace Go.Proofs.YtommaegelgilnaaGreatDoor
open Go.RowKit Go.Proofs.Tryz
set_option maxHeartbeats 8000000
set_option maxRecDepth 100000
variable {A:Option Addr}{B B0 M X b cap:Nat}{E Z:zD}{P:Program}{f g:List zB}{l:List zF}{s:zM}{st:zAH}{t:TypeId}{v vf vg:Value}{w:World}
def zKV(R:Nat)(D:Option Addr)(dl dcap:Nat)(vl va vz vc v5 v6 vm:Value)(r:List zB × Int)(w:World)(e:Ending)(w':World):Prop:=
 ∃A cap,e= .returned (.agg #[.slice A r.1.length cap])/\zK (λb=>w.heap.size<=b) w' (.slice A r.1.length cap) r.1/\Blk w' R 71 #[vl,.slice D dl dcap,va,vz,vc,v5,v6,vm,.int .i64 r.2]/\zA (λc=>c≠R) w w'
theorem zTH(R:Nat)(Z:zD)(D:Option Addr)(z:Nat)(vl wa vz vc v5 v6 vm va vb:Value)(t:Int)(a b:List zB)(ds:List zE)(w:World)
  (hR:Blk w R 71 #[vl,.slice D ds.length z,wa,vz,vc,v5,v6,vm,.int .i64 t])(ha:zK Z w va a)(j:zK Z w vb b)(hd:Facts Z w (.slice D ds.length z) ds)(hz:∀b,Z b->b<w.heap.size)(L:zBr w.heap.size w):
  Calls prog 33 #[.pointer (some ⟨R,0,none⟩),.agg #[va],.agg #[vb]] w (zKV R D ds.length z vl wa vz vc v5 v6 vm (zBH ds t a b) w):=by
 obtain⟨T,n,rfl,-,-,-⟩:=ha.open_;obtain⟨U,o,rfl,-,-,-⟩:=j.open_;have rl:=hR.lt;have P:Bw w (((w.alloc (.cells #[.slice T a.length n] 74)).alloc (.cells #[.slice U b.length o] 74)).alloc (.cells #[.slice none 0 0] 74)):=((zG w _).alloc (by simp) _).alloc (by simp;omega) _;have ag:=((Blk.new w 74 #[.slice T a.length n]).alloc (.cells #[.slice U b.length o] 74)).alloc (.cells #[.slice none 0 0] 74);have x:=(zFW w (.cells #[.slice T a.length n] 74) 74 #[.slice U b.length o]).alloc (.cells #[.slice none 0 0] 74);have ah:Blk (((w.alloc (.cells #[.slice T a.length n] 74)).alloc (.cells #[.slice U b.length o] 74)).alloc (.cells #[.slice none 0 0] 74)) (w.heap.size+1+1) 74 #[.slice none 0 0]:=Blk.new' _ _ _ (by simp);have d:=hid (And.intro P (And.intro ag (And.intro x (And.intro ah (hR.below P rl)))));have HA:=hid (λ(X W:World)(I:Bw w X)(A:zA (λ_=>True) X W)=>zTx Z _ _ _ a b ds W (ha.keep (.of_below (I.trans (A.below.mono I.size)))) (j.keep (.of_below (I.trans (A.below.mono I.size)))) (hd.keep (.of_below (I.trans (A.below.mono I.size)))) (λb h=>Nat.lt_of_lt_of_le (hz b h) (Nat.le_trans I.size A.size)) ((L.on (I.trans (A.below.mono I.size))).mono (Nat.le_trans I.size A.size)));clear P ag x ah ha j hd hz L hR;go_enter func33,ntmps33
 go_upto_region 1 with fail
 generalize (((w.alloc _).alloc _).alloc _)=m at*;replace HA:=hid (λ(W:World)(A:zA (λ_=>True) m W)=>HA m W d.1 A);have r1:=d.2.2.2.2.cell 8;have au:=d.2.2.2.2.lt;by_cases he:t=0
 ·have HE:=hid (show zBH ds t a b=zGc ds a b from by unfold zBH;rw[if_neg (by simpa using he)]);have ap:(t !=(0:Int))=false:=by simp[he]
  clear he;go_upto_region 3 with fail
  generalize hG:zGc ds a b=G at*;have HG:=hid hG;clear hG
  have HC:=hid (λ(W:World)(A:zA (λ_=>True) m W)=>(show W.cell? ⟨w.heap.size,0,none⟩=some (.slice T a.length n)/\W.cell? ⟨w.heap.size+1,0,none⟩=some (.slice U b.length o)/\W.cell? ⟨R,1,none⟩=some (.slice D ds.length z)/\w.heap.size<W.heap.size/\w.heap.size+1<W.heap.size/\R<W.heap.size from by
   have h1:=d.2.1.keep A trivial;have h2:=d.2.2.1.keep A trivial;have h3:=d.2.2.2.2.keep A trivial
   exact⟨h1.at0,h2.at0,h3.at1,h1.lt,h2.lt,h3.lt⟩))
  clear r1 au;go_cut[7,8] from 15 to 26 (λvp aw wx=>∃V C f,vp= .pointer (some ⟨V,0,none⟩)/\aw= .int .i64 G.2/\Blk wx V 74 #[.slice C G.1.length f]/\m.heap.size<=V/\zA (λ_=>True) m wx/\zK (λb=>m.heap.size<=b/\b≠V) wx (.slice C G.1.length f) G.1)
  case first=>
   refine zY 12 (λW=>zA (λ_=>True) m W) (by kernel_rfl) ?_;have u:zA (λ_=>True) m m.drew:=(zA.refl _ _).drew;have q:(λW=>zA (λ_=>True) m W) m.drew:=u;generalize m.drew=B at*
   (refine tkS 0 ?_ q ?_ ?_;rotate_left;intro w y;obtain⟨a0,b0,d0,l0,l1,l2⟩:=HC _ y;clear y;go_simp;(try with_reducible rfl);simp only[nr])
   (refine tkS 1 ?_ q ?_ ?_;rotate_left;intro w y;obtain⟨a0,b0,d0,l0,l1,l2⟩:=HC _ y;clear y;go_simp;(try with_reducible rfl);simp only[nr])
   (refine tkQ 2 q ?_;simp only[nr])
   (refine tkQ 3 q ?_;simp only[nr])
   (refine tkQ 4 q ?_;simp only[nr])
   (refine tkQ 5 q ?_;simp only[nr])
   (refine tkS 6 ?_ q ?_ ?_;rotate_left;intro w y;obtain⟨a0,b0,d0,l0,l1,l2⟩:=HC _ y;clear y;go_simp;(try with_reducible rfl);simp only[nr])
   clear q;refine wS2 7 11 (λK g=> ?_) (λK g=> ?_)
   ·(go_wp2_with fail);refine(HA _ u).mono ?_;rintro e s ⟨v,rfl,hn,x⟩;have j:=zA.of_below (Z:=λ_=>True) x;clear x;obtain⟨C,f,rfl,-,-,-⟩:=hn.open_;have k:zA (λ_=>True) m s:=u.trans (j.mono λ_ _ h=>h);have ao:=hn.live.mono (Z':=λb=>B.heap.size<=b/\b<s.heap.size) (λb h=>⟨h.1.resolve_left id,h.2⟩);refine g _ _ (Or.inr k) ?_;clear g K j
    (try simp only[nr])
    have q:(λW=>zA (λ_=>True) m W) s:=k
    (refine tkQ 8 q ?_;simp only[nr])
    (refine tkQ 9 q ?_;simp only[nr])
    (refine tkQ 10 q ?_;simp only[nr])
    clear q;refine wS1 11 (λK g=> ?_);(go_wp2_with fail);refine g _ _ (Or.inr (k.alloc _)) ?_;clear g K
    (try simp only[nr])
    have F:zA (λ_=>True) m (s.alloc (.cells #[.slice none 0 0] 74)):=k.alloc _;have i:=Blk.new s 74 #[.slice none 0 0];have O:=ao.keep ((zA.refl _ s).alloc (.cells #[.slice none 0 0] 74));generalize s.alloc _=Y at*;refine wS1 12 (λK g=> ?_);have c0:=i.at0;have g0:=i.frozen 0;have cl:=i.lt;have N:=hid i;clear i;(go_wp2_with fail);refine g _ _ (Or.inl rfl) ?_;clear g K
    (try simp only[nr])
    refine wS1 13 (λK g=> ?_);(go_wp2_with fail);refine g _ _ (Or.inl rfl) ?_;clear g K
    (try simp only[nr])
    refine wSd ?_ _;(go_wp2_with fail);go_meet;exact⟨s.heap.size,C,f,rfl,rfl,(N.set_ 0 _),k.size,(F.setCell (λ(h:s.heap.size<m.heap.size)=>absurd k.size (Nat.not_le_of_lt h)) _),(O.keep ((zA.refl _ _).setCell (λ_(h:B.heap.size<=s.heap.size/\s.heap.size<s.heap.size)=>absurd h (by omega)) _)).mono (λb(h:B.heap.size<=b/\b<s.heap.size)=>⟨Nat.le_trans u.size h.1,by omega⟩)⟩
   (go_wp2_with fail);refine g _ _ (Or.inr (u.alloc _)) ?_;clear g K
   (try simp only[nr])
   have k:zA (λ_=>True) m (B.alloc (.cells #[.slice none 0 0] 74)):=u.alloc _;have af:=Blk.new B 74 #[.slice none 0 0];generalize B.alloc _=s at*;refine wS1 7 (λK g=> ?_);(go_wp2_with fail);refine(HA _ k).mono ?_;rintro e Y ⟨v,rfl,hn,x⟩;have j:=zA.of_below (Z:=λ_=>True) x;clear x;obtain⟨C,f,rfl,-,-,-⟩:=hn.open_;have F:zA (λ_=>True) m Y:=k.trans (j.mono λ_ _ h=>h);have O:=hn.live.mono (Z':=λb=>s.heap.size<=b/\b<Y.heap.size) (λb h=>⟨h.1.resolve_left id,h.2⟩);have i:=af.keep j trivial;refine g _ _ (Or.inr F) ?_;clear g K j
   (try simp only[nr])
   have q:(λW=>zA (λ_=>True) m W) Y:=F
   (refine tkQ 8 q ?_;simp only[nr])
   (refine tkQ 9 q ?_;simp only[nr])
   (refine tkQ 10 q ?_;simp only[nr])
   clear q;have ae:=hid (show B.heap.size<s.heap.size from af.lt);refine wS1 12 (λK g=> ?_);have c0:=i.at0;have g0:=i.frozen 0;have cl:=i.lt;have N:=hid i;clear i;(go_wp2_with fail);refine g _ _ (Or.inl rfl) ?_;clear g K
   (try simp only[nr])
   refine wS1 13 (λK g=> ?_);(go_wp2_with fail);refine g _ _ (Or.inl rfl) ?_;clear g K
   (try simp only[nr])
   refine wSd ?_ _;(go_wp2_with fail);go_meet;exact⟨B.heap.size,C,f,rfl,rfl,(N.set_ 0 _),u.size,(F.setCell (λ(h:B.heap.size<m.heap.size)=>absurd u.size (Nat.not_le_of_lt h)) _),(O.keep ((zA.refl _ _).setCell (λ_(h:s.heap.size<=B.heap.size/\B.heap.size<Y.heap.size)=>absurd h (by have:=ae.out;omega)) _)).mono (λb(h:s.heap.size<=b/\b<Y.heap.size)=>⟨Nat.le_trans k.size h.1,by have:=ae.out;omega⟩)⟩
  case rest=>
   obtain⟨V,C,f,rfl,rfl,hx,ai,j,hN⟩:=hcut;(rename World=>w4);have ac:=hid hx;have M:=hid (d.2.2.2.1.keep j trivial);have E:=hid (d.2.2.2.2.keep j trivial);have aa:=hid ((zA.of_below d.1:zA (λc=>c≠R) w m).trans (j.mono λ_ _ _=>trivial));have ab:=hid hN;have a2:=d.1.size;have az:=j.size;have ay:=ai;have a1:=M.lt;have ax:=d.2.2.2.1.lt;clear hx j hN ai HC HA d;have r1:=E.cell 8;have ar:=E.frozen 8;have av:=E.lt;(go_upto_region 5 with fail);have H:zA (λc=>c≠R) w4 (w4.setCell ⟨R,8,none⟩ (.int .i64 G.2)):=(zA.refl _ _).setCell (p:=⟨R,8,none⟩) (λ_ h=>h rfl) _;have al:=hid (E.set_ 8 (.int .i64 G.2));have ad:=hid (ac.keep H (by show V≠R;omega));have J:=hid (M.keep H (by show w.heap.size+1+1≠R;omega));have aj:=hid (aa.trans H);have ak:=hid (ab.keep (H.mono λb _ j=>by have:=j.1;show b≠R;omega));clear H E ac M aa ab r1 ar av;generalize w4.setCell ⟨R,8,none⟩ (.int .i64 G.2)=w5 at*;have B:=ad.at0;have xl:=ad.lt;have o0:=J.at0;have aq:=J.frozen 0;have ol:=J.lt;(go_wp2_with fail);have Q:zA (λb=>b≠w.heap.size+1+1) w5 (w5.setCell ⟨w.heap.size+1+1,0,none⟩ (.slice C G.1.length f)):=(zA.refl _ _).setCell (λ_ h=>h rfl) _;have hB:=J.set_ 0 (.slice C G.1.length f);have q0:=hB.at0;refine bodyPost_ret (v:= .agg #[.slice C G.1.length f]) (by simp[results,results33,go_sem,q0]) rfl ?_;unfold zKV;rw[HE.out];exact⟨C,f,rfl,(ak.keep (Q.mono λb _ j=>by have:=j.1;show b≠w.heap.size+1+1;omega)).mono λb j=>by have:=j.1;show w.heap.size<=b;omega,Blk.keep al Q (by show R≠w.heap.size+1+1;omega),aj.ne2 Q (by omega)⟩
 have HE:=hid (show zBH ds t a b=([],t) from by unfold zBH;rw[if_pos he]);have ap:(t !=(0:Int))=true:=by simp[he]
 clear he;have o0:=d.2.2.2.1.at0;have aq:=d.2.2.2.1.frozen 0;have ol:=d.2.2.2.1.lt;go_wp2_with fail
 have hB:=d.2.2.2.1.set_ 0 (.slice none 0 0);have q0:=hB.at0;refine bodyPost_ret (v:= .agg #[.slice none 0 0]) (by simp[results,results33,go_sem,q0]) rfl ?_;unfold zKV;rw[HE.out];exact⟨none,0,rfl,zSH _ _,d.2.2.2.2.far (p:=⟨w.heap.size+1+1,0,none⟩) (by show R≠w.heap.size+1+1;omega) _,(zA.of_below d.1).setCell (p:=⟨w.heap.size+1+1,0,none⟩) (λ(h:w.heap.size+1+1<w.heap.size)=>absurd h (by omega)) _⟩
theorem zQn(R:Nat)(Z:zD)(D:Option Addr)(f:Nat)(Y wa vz V T U vm:Value)(x:Int)(ds:List zE)(w:World)
  (y:Blk w R 71 #[Y,.slice D ds.length f,wa,vz,V,T,U,vm,.int .i64 x])(H:Facts Z w (.slice D ds.length f) ds)(J:∀b,Z b->b<w.heap.size)(i:zBr w.heap.size w):
  Calls prog 70 #[.pointer (some ⟨R,0,none⟩)] w λe w'=>∃A cap,e= .returned (.agg #[.slice A (zJ ds).length cap])/\zK (λb=>w.heap.size<=b) w' (.slice A (zJ ds).length cap) (zJ ds)/\Bw w w':=by
 have Q:=y.lt;have j:Bw w (w.alloc (.cells #[.slice none 0 0] 74)):=zG w _;have q:Blk (w.alloc (.cells #[.slice none 0 0] 74)) w.heap.size 74 #[.slice none 0 0]:=Blk.new _ _ _;have c:=hid (And.intro j (And.intro q (y.below j Q)));have t:=hid (λ(X W:World)(n:Bw w X)(m:zA (λ_=>True) X W)=>zMe (λ_=>False) Z _ fFm [.int .i64 2,.string ⟨#[]⟩,.int .i64 0,.int .i64 0,.slice none 0 0] ds W (FmR.leaf (by unfold I64;omega)) (λb h=>h.elim) (H.keep (.of_below (n.trans (m.below.mono n.size)))) (λb h=>Nat.lt_of_lt_of_le (J b h) (Nat.le_trans n.size m.size)) (by rw[show zH fFm=1 from by simp[fFm,zH,zV]];decide) ((i.on (n.trans (m.below.mono n.size))).mono (Nat.le_trans n.size m.size)));have K:=hid (show zJ ds=(zBp ds fFm).1 from rfl);clear j q H J i y;go_enter func70,ntmps70
 go_upto_region 1 with fail
 generalize w.alloc _=C at*;replace t:=hid (λ(W:World)(m:zA (λ_=>True) C W)=>t C W c.1 m);generalize F:zBp ds fFm=G at*;have HG:=hid F;clear F;have P:=c.2.2.at1;have B:=c.2.2.lt;go_wp2_with fail
 refine(t _ (zA.refl _ _)).mono ?_;rintro e E ⟨v,rfl,z,g⟩;obtain⟨k,a,rfl,-,-,-⟩:=z.open_;have u:=hid (z.live.mono (Z':=λb=>C.heap.size<=b/\b<E.heap.size) λb h=>⟨h.1.resolve_left id,h.2⟩);have d:=hid (c.2.1.below g c.2.1.lt);have o:=hid (zC c.1 g);have I:=c.2.1.lt;have M:=g.size;clear z g t c P B;have o0:=d.at0;have N:=d.frozen 0;have ol:=d.lt;go_wp2_with fail
 have s:zA (λb=>b≠w.heap.size) E ((E.setCell ⟨w.heap.size,0,none⟩ (.slice k G.1.length a)).alloc (.cells #[.slice k G.1.length a] 74)):=((zA.refl _ _).setCell (λ_ h=>h rfl) _).alloc _;have L:=(d.set_ 0 (.slice k G.1.length a)).alloc (.cells #[.slice k G.1.length a] 74);have O:=L.at0;refine bodyPost_ret (v:= .agg #[.slice k G.1.length a]) (by simp[results,results70,go_sem,O]) rfl ?_;rw[K.out];exact⟨k,a,rfl,(u.keep (s.mono λb _ g=>by have:=g.1;show b≠w.heap.size;omega)).mono λb g=>by have:=g.1;show w.heap.size<=b;omega,zAG o s (Nat.le_refl _) o.size⟩
def zCe(E:zD)(w:World):List (Int × Value)->List (Nat × List zB)->Prop
 |[],[]=>True
 |p::kv,q::b=>p.1=(q.1:Int)/\(∃v,p.2= .agg #[v]/\zK (λb=>¬E b) w v q.2)/\zCe E w kv b
 | _,_=>False
theorem zCe.imp{E E':zD}{w w':World}(a:∀v g,zK (λb=>¬E b) w v g->zK (λb=>¬E' b) w' v g):∀{c:List (Int × Value)}{b:List (Nat × List zB)},zCe E w c b->zCe E' w' c b
 |[],[],_=>trivial
 | _::_,_::_,⟨h1,⟨v,h2,h3⟩,h4⟩=>⟨h1,⟨v,h2,a v _ h3⟩,zCe.imp a h4⟩
 |[],_::_,h=>h.elim
 | _::_,[],h=>h.elim
theorem zCe.get{E:zD}{w:World}(i:Nat):∀{c:List (Int × Value)}{b:List (Nat × List zB)},zCe E w c b->(zAA c (i:Int)=none/\mapD b i=none)\/∃v g,zAA c (i:Int)=some (.agg #[v])/\mapD b i=some g/\zK (λb=>¬E b) w v g
 |[],[],_=> .inl ⟨rfl,rfl⟩
 |p::c,q::b,⟨h1,⟨v,h2,h3⟩,h4⟩=>by
  unfold zAA mapD;by_cases d:i=q.1
  ·(have a:(i:Int)=p.1:=by rw[h1,d]);rw[if_pos a,if_pos d];exact .inr ⟨v,q.2,by rw[h2],rfl,h3⟩
  have a:¬(i:Int)=p.1:=by rw[h1];omega
  rw[if_neg a,if_neg d];exact zCe.get i h4
 |[],_::_,h=>h.elim
 | _::_,[],h=>h.elim
theorem zCe.set{E:zD}{w:World}{i:Nat}{v:Value}{g:List zB}(c:zK (λb=>¬E b) w v g):∀{e:List (Int × Value)}{b:List (Nat × List zB)},zCe E w e b->zCe E w (zAq e (i:Int) (.agg #[v])) (zAp b i g)
 |[],[],_=>⟨rfl,⟨v,rfl,c⟩,trivial⟩
 |p::e,q::b,⟨h1,h2,h4⟩=>by
  unfold zAq zAp;by_cases d:i=q.1
  ·(have a:(i:Int)=p.1:=by rw[h1,d]);rw[if_pos a,if_pos d];exact⟨h1,⟨v,rfl,c⟩,h4⟩
  have a:¬(i:Int)=p.1:=by rw[h1];omega
  rw[if_neg a,if_neg d];exact⟨h1,h2,zCe.set c h4⟩
 |[],_::_,h=>h.elim
 | _::_,[],h=>h.elim
structure zQ (E Z:zD) (B0:Nat) (w:World) (B M:Nat) (l:List zF) (s:zM) (st:zAH):Prop where
 box:∃vl vd va vz vc,Blk w B 71 #[vl,vd,va,vz,vc,.int .i64 s.signed,.int .i64 s.now,.map (some M),.int .i64 st.err]/\zn Z w vl l/\zBq Z w vd va vz vc s
 map:∃kv,zS encI w M kv/\zCe E w kv st.built
 eb:E B
 em:E M
 ne:B≠M
 z:∀b,Z b->b<w.heap.size/\¬E b
 e:∀b,E b->b<w.heap.size/\B0<=b
 t:zBr B0 w
section
variable {E E' Z:zD} {B0 B M:Nat} {w w':World} {l:List zF} {s:zM} {st:zAH}
theorem zQ.bl(h:zQ E Z B0 w B M l s st):B<w.heap.size:=(h.e B h.eb).1
theorem zQ.low(h:zQ E Z B0 w B M l s st):B0<=w.heap.size:=by have:=h.e B h.eb;omega
theorem zQ.gen(h:zQ E Z B0 w B M l s st)(c:zA (λb=>¬E b\/b=B\/b=M) w w'):zQ E Z B0 w' B M l s st:=by
 obtain⟨⟨D,C,y,F,A,k,m,n⟩,⟨u,j,x⟩,f,o,ne,z,e,t⟩:=h;have i:zA Z w w':=c.mono λb _ a=> .inl (z b a).2
 refine⟨⟨D,C,y,F,A,k.keep c (.inr (.inl rfl)),zn.keep m i,n.keep i⟩,⟨u,j.of_block (c.block M j.lt (.inr (.inr rfl))),x.imp λv g q=>q.keep (c.mono λb _ a=> .inl a)⟩,f,o,ne,λb a=>⟨Nat.lt_of_lt_of_le (z b a).1 c.size,(z b a).2⟩,λb a=>⟨Nat.lt_of_lt_of_le (e b a).1 c.size,(e b a).2⟩,?_⟩;have d:B0<=w.heap.size:=by have:=e B f;omega
 exact t.on (z8 (c.mono λb _(a:b<B0)=> .inl λhe=>by have:=(e b he).2;omega) d)
theorem zQ.below(h:zQ E Z B0 w B M l s st)(a:Bw w w'):zQ E Z B0 w' B M l s st:=h.gen (.of_below a)
theorem zQ.more(h:zQ E Z B0 w B M l s st)(d:Bw w w')(k:∀b,E b->E' b)(i:∀b,E' b->E b\/(w.heap.size<=b/\b<w'.heap.size)):zQ E' Z B0 w' B M l s st:=by
 have f:=h.low;obtain⟨⟨H,G,D,I,F,j,o,q⟩,⟨A,n,C⟩,u,x,ne,z,e,t⟩:=h;have m:zA Z w w':= .of_below d;refine⟨⟨H,G,D,I,F,j.below d j.lt,zn.keep o m,q.keep m⟩,⟨A,n.of_block (d.block M n.lt),C.imp λv g y=>(y.live.keep (.of_below d)).mono λb a he=> ?_⟩,k B u,k M x,ne,λb a=>⟨Nat.lt_of_lt_of_le (z b a).1 d.size,λhe=> ?_⟩,λb a=> ?_,t.on (d.mono f)⟩
 ·rcases i b he with c|c
  ·exact a.1 c
  have:=a.2;omega
 ·rcases i b he with c|c
  ·exact(z b a).2 c
  have:=(z b a).1;omega
 rcases i b a with c|c
 ·have:=e b c;have:=d.size;omega
 omega
theorem zQ.less(h:zQ E' Z B0 w B M l s st)(c:∀b,E b->E' b)(f:E B)(i:E M):zQ E Z B0 w B M l s st:=by
 obtain⟨d,⟨k,m,n⟩,_,_,ne,z,e,t⟩:=h;exact⟨d,⟨k,m,n.imp λv g j=>j.mono λb a he=>a (c b he)⟩,f,i,ne,λb a=>⟨(z b a).1,λhe=>(z b a).2 (c b he)⟩,λb a=>e b (c b a),t⟩
theorem zQ.nodes_more(h:zK (λb=>¬E b) w v g)(e:Bw w w')(d:∀b,E' b->E b\/w.heap.size<=b):zK (λb=>¬E' b) w' v g:=(h.live.keep (.of_below e)).mono λb a he=>by
 rcases d b he with c|c
 ·exact a.1 c
 have:=a.2;omega
theorem zQ.keeps(h:zQ E Z B0 w B M l s st)(c:zA (λb=>b≠B/\b≠M) w w'):zA (λb=>¬E b) w w':=c.mono λb _ a=>⟨λe=>a (e▸h.eb),λe=>a (e▸h.em)⟩
def zNH(E Z:zD)(B0 B M:Nat)(l:List zF)(s:zM)(g:List zB)(st:zAH)(w:World)(e:Ending)(w':World):Prop:=
 ∃A cap,e= .returned (.agg #[.slice A g.length cap])/\zK (λb=>¬E b) w' (.slice A g.length cap) g/\zQ E Z B0 w' B M l s st/\zA (λb=>b≠B/\b≠M) w w'
theorem zQ.and(h:zQ E Z B0 w B M l s st)(O:zK (λb=>¬E b) w vf f)(P:zK (λb=>¬E b) w vg g):
  Calls prog 33 #[.pointer (some ⟨B,0,none⟩),.agg #[vf],.agg #[vg]] w (zNH E Z B0 B M l s (zBH s.dom st.err f g).1 ⟨(zBH s.dom st.err f g).2,st.built⟩ w):=by
 have i:=h.low;obtain⟨⟨H,T,F,I,G,J,K,n⟩,⟨Q,C,R⟩,o,L,ne,z,e,t⟩:=h;obtain⟨D,k,rfl⟩:∃m c,T= .slice m s.dom.length c:=by obtain⟨⟨m,c,e,_⟩,_⟩:=n.d;exact⟨m,c,e⟩
 refine(zTH B (λb=>b<w.heap.size) D k H F I G _ _ _ vf vg st.err f g s.dom w J (O.live.mono λ_ a=>a.2) (P.live.mono λ_ a=>a.2) (n.d.mono λb a=>(z b a).1) (λ_ a=>a) (t.mono i)).mono ?_;rintro U w' ⟨A,cap,rfl,q,N,j⟩;have x:zA (λb=>¬E b) w w':=j.mono λb _ a u=>a (u▸o)
 have y:zA Z w w':=x.mono λb _ a=>(z b a).2
 refine⟨A,cap,rfl,q.mono λb a he=>by have:=(e b he).1;omega,⟨⟨H,_,F,I,G,N,zn.keep K y,n.keep y⟩,⟨Q,C.of_block (j.block M C.lt (Ne.symm ne)),R.imp λv g q=>q.keep x⟩,o,L,ne,λb a=>⟨Nat.lt_of_lt_of_le (z b a).1 j.size,(z b a).2⟩,λb a=>⟨Nat.lt_of_lt_of_le (e b a).1 j.size,(e b a).2⟩,?_⟩,j.mono λb _ a=>a.1⟩;exact t.on (z8 (j.mono λb _(a:b<B0) u=>by have:=(e B o).2;omega) i)
theorem zQ.never(h:zQ E Z B0 w B M l s st):
  Calls prog 70 #[.pointer (some ⟨B,0,none⟩)] w λe w'=>∃A cap,e= .returned (.agg #[.slice A (zJ s.dom).length cap])/\zK (λb=>¬E b) w' (.slice A (zJ s.dom).length cap) (zJ s.dom)/\Bw w w':=by
 have g:=h.low;obtain⟨⟨u,q,n,v,o,k,x,j⟩,-,C,F,ne,z,e,t⟩:=h;obtain⟨D,f,rfl⟩:∃i a,q= .slice i s.dom.length a:=by obtain⟨⟨i,a,e,_⟩,_⟩:=j.d;exact⟨i,a,e⟩
 refine(zQn B (λb=>b<w.heap.size) D f u n v o _ _ _ st.err s.dom w k (j.d.mono λb c=>(z b c).1) (λ_ c=>c) (t.mono g)).mono ?_;rintro y w' ⟨A,cap,rfl,m,c⟩;exact⟨A,cap,rfl,m.mono λb c he=>by have:=(e b he).1;omega,c⟩
theorem zGY(h:zK (λb=>¬E b) w v g)(d:∀b,E b->b<w.heap.size):
  Calls prog 34 #[.agg #[v]] w λe w'=>∃A cap,e= .returned (.agg #[.slice A (zXP g).length cap])/\zK (λb=>¬E b) w' (.slice A (zXP g).length cap) (zXP g)/\Bw w w':=by
 refine(zTg _ v g w h).mono ?_;rintro e w' ⟨f,rfl,c,a⟩;obtain⟨A,cap,rfl,-⟩:=c.open_
 exact⟨A,cap,rfl,c.mono λb a he=>by
  rcases a with a|a
  ·exact a.1 he
  have:=d b he;omega,a⟩
end
theorem zQ.union(h:zQ E Z B0 w B M l s st)(hf:zK (λb=>¬E b) w vf f)(hg:zK (λb=>¬E b) w vg g):
  Calls prog 32 #[.pointer (some ⟨B,0,none⟩),.agg #[vf],.agg #[vg]] w (zNH E Z B0 B M l s (zAt s.dom st.err f g).1 ⟨(zAt s.dom st.err f g).2,st.built⟩ w):=by
 obtain⟨u,c,rfl,-⟩:=hf.open_;obtain⟨x,d,rfl,-⟩:=hg.open_;have k:Bw w (((w.alloc (.cells #[.slice u f.length c] 74)).alloc (.cells #[.slice x g.length d] 74)).alloc (.cells #[.slice none 0 0] 74)):=((zG w _).alloc (by simp) _).alloc (by simp;omega) _;have af:=hid (((Blk.new w 74 #[.slice u f.length c]).alloc (.cells #[.slice x g.length d] 74)).alloc (.cells #[.slice none 0 0] 74));have ag:=hid ((zFW w (.cells #[.slice u f.length c] 74) 74 #[.slice x g.length d]).alloc (.cells #[.slice none 0 0] 74));have ah:=hid (Blk.newE ((w.alloc (.cells #[.slice u f.length c] 74)).alloc (.cells #[.slice x g.length d] 74)) 74 #[.slice none 0 0] (n:=w.heap.size+1+1) (by simp));have ak:w.heap.size+1+1<(((w.alloc (.cells #[.slice u f.length c] 74)).alloc (.cells #[.slice x g.length d] 74)).alloc (.cells #[.slice none 0 0] 74)).heap.size :=by simp
 have T:=hid (h.more k (E':=λb=>E b\/b=w.heap.size+1+1) (λb a=> .inl a) (λb a=>a.imp id λe=>by omega));have N:=hid (zQ.nodes_more hf k (E':=λb=>E b\/b=w.heap.size+1+1) (λb a=>a.imp id λe=>by omega));have Q:=hid (zQ.nodes_more hg k (E':=λb=>E b\/b=w.heap.size+1+1) (λb a=>a.imp id λe=>by omega));have ab:=hid k;have HE:=hid h.e;have J:=hid (And.intro h.eb h.em);have HU:=hid (show zAt s.dom st.err f g=(zXP (zBH s.dom st.err (zXP f) (zXP g)).1,(zBH s.dom st.err (zXP f) (zXP g)).2) from rfl);have ai:=h.bl;have aj:=(h.e M h.em).1;clear k hf hg h;generalize zAt s.dom st.err f g=U at*;go_enter func32,ntmps32
 go_upto_region 1 with fail
 generalize (((w.alloc _).alloc _).alloc _)=H at*
 have HC:=hid (λ(W:World)(hW:zA (λb=>b≠B/\b≠M) H W)=>(show W.cell? ⟨w.heap.size,0,none⟩=some (.slice u f.length c)/\w.heap.size<W.heap.size/\W.cell? ⟨w.heap.size+1,0,none⟩=some (.slice x g.length d)/\w.heap.size+1<W.heap.size from by
  have h1:=af.keep hW ⟨by omega,by omega⟩;have h2:=ag.keep hW ⟨by omega,by omega⟩
  exact⟨h1.at0,h1.lt,h2.at0,h2.lt⟩))
 refine zY 7 (λW=>zA (λb=>b≠B/\b≠M) H W) (by kernel_rfl) ?_;have C:zA (λb=>b≠B/\b≠M) H H.drew:=(zA.refl _ _).drew;have hS:(λW=>zA (λb=>b≠B/\b≠M) H W) H.drew:=C;have y:=hid (T.below (Below.refl _ _).drew);have L:=hid (N.keep (zA.refl _ _).drew);have O:=hid (Q.keep (zA.refl _ _).drew);clear T N Q;generalize H.drew=x0 at*
 (refine tkQ 0 hS ?_;simp only[nr])
 try simp only[nq]
 (refine tkS 1 ?_ hS ?_ ?_;rotate_left;intro w i;obtain⟨a0,al,b0,bl⟩:=HC _ i;clear i;go_simp;(try with_reducible rfl);simp only[nr])
 try simp only[nq]
 (refine tkS 3 ?_ hS ?_ ?_;rotate_left;intro w i;obtain⟨a0,al,b0,bl⟩:=HC _ i;clear i;go_simp;(try with_reducible rfl);simp only[nr])
 try simp only[nq]
 clear hS;refine wS1 2 (λK j=> ?_);go_wp2_with fail
 refine(zGY L λb a=>(y.e b a).1).mono ?_;rintro e x1 ⟨A1,c1,rfl,m,a⟩;have D:=C.trans (.of_below a);have z:=hid (y.below a);have V:=hid m;have P:=hid (O.keep (.of_below a));refine j _ _ (Or.inr D) ?_;clear j K m a y L O C
 (try simp only[nr])
 refine wS1 4 (λK j=> ?_);go_wp2_with fail
 refine(zGY P λb a=>(z.e b a).1).mono ?_;rintro e x2 ⟨A2,c2,rfl,m,a⟩;have F:=D.trans (.of_below a);have R:=hid (z.below a);have X:=hid m;have t:=hid (V.keep (.of_below a));refine j _ _ (Or.inr F) ?_;clear j K m a z P V D
 (try simp only[nr])
 refine wS1 5 (λK j=> ?_);go_wp2_with fail
 refine(R.and t X).mono ?_;rintro e x3 ⟨A3,c3,rfl,m,hm,hk⟩;have G:=F.trans hk;have A:=hid hm;have Y:=hid m;refine j _ _ (Or.inr G) ?_;clear j K m hm hk R t X F
 (try simp only[nr])
 refine wS1 6 (λK j=> ?_);go_wp2_with fail
 refine(zGY Y λb a=>(A.e b a).1).mono ?_;rintro e x4 ⟨I,c4,rfl,m,a⟩;have q:=G.trans (.of_below a);have ad:=hid (A.below a);have ae:=hid m;refine j _ _ (Or.inr q) ?_;clear j K m a A Y G
 (try simp only[nr])
 have o:=hid (ah.keep q ⟨by omega,by omega⟩);have ac:=hid q;clear q;have q0:=o.at0;have qf:=o.frozen 0;have ql:=o.lt;refine wS1 7 (λK j=> ?_);go_wp2_with fail
 refine j _ _ (Or.inl rfl) ?_;clear j K;try simp only[nq]
 refine wSd ?_ _;go_wp2_with fail
 have hB:=o.set_ 0 (.slice I (zXP (zBH s.dom st.err (zXP f) (zXP g)).1).length c4);have q1:=hB.at0;refine bodyPost_ret (v:= .agg #[.slice I (zXP (zBH s.dom st.err (zXP f) (zXP g)).1).length c4]) (by simp[results,results32,go_sem,q1]) rfl ?_;have aa:zA (λb=>b≠w.heap.size+1+1) x4 (x4.setCell ⟨w.heap.size+1+1,0,none⟩ (.slice I (zXP (zBH s.dom st.err (zXP f) (zXP g)).1).length c4)):=(zA.refl _ _).setCell (λ_ h=>h rfl) _;have i:zA (λb=>b≠B/\b≠M) w (x4.setCell ⟨w.heap.size+1+1,0,none⟩ (.slice I (zXP (zBH s.dom st.err (zXP f) (zXP g)).1).length c4)):=(((zA.of_below ab).trans ac).setCell (λh _=>by simp at h;omega) _);have hU:=HU.out;subst hU;refine⟨I,c4,rfl,(ae.keep (aa.mono λb _ a e=>a (.inr e))).mono λb a he=>a (.inl he),(ad.gen (aa.mono λb _ a=> ?_)).less (λb a=> .inl a) J.1 J.2,i⟩;rcases a with a|a|a
 ·exact λe=>a (.inr e)
 ·omega
 omega
theorem zOL{κ:Type}[DecidableEq κ]{enc:κ->Value}{t k e:TypeId}{i:List (κ × Value)}{o:Oper}{a:Act}{K:Act->World->Prop}{Q:Exit->Act->World->Prop}(m x y:Operand)(g:o.op=Op.mapUpdate t m x y)
  (j:zFP P k enc)(B:P.underlying t=some (.map k e))(A:a.eval m= .map (some b))(h:zS enc w b i)(key:κ)(C:a.eval x=enc key)
  (z:∀d,zS enc d b (zAq i key (a.eval y))->zA (λc=>c≠b) w d->d.heap.size=w.heap.size->(∀a,d.cell? a=w.cell? a)->(∀a,d.frozen? a=w.frozen? a)->K (a.put o.dst undef) d):Oper.wp P o a w K Q:=by
 obtain⟨d,f,n,q,s,u,v⟩:=h.store j B key (a.eval y);unfold Oper.wp;simp[execOp,g,A,C,f,Result.andThen];exact z d n q s u v
theorem Tryz.zeroDiaE(w:World):(zeroValue 74).run prog w= .ok (.agg #[.slice none 0 0]) w:=by kernel_rfl
theorem zQo(Z:zD)(w:World):zK Z w (.slice none 0 0) []:=⟨none,0,rfl,by simp,by decide,by simp,trivial⟩
theorem Tryz.keyIntE:zFP prog 3 encI:=zJR (P:=prog) (k:=3) underlying3
theorem zQ.put{w w':World}{er:Int}{bu:List (Nat × List zB)}(h:zQ E Z B0 w B M l s st)(m:zA (λb=>b≠B/\b≠M) w w')
  (A:∀j vd g k i,Blk w B 71 #[j,vd,g,k,i,.int .i64 s.signed,.int .i64 s.now,.map (some M),.int .i64 st.err]->Blk w' B 71 #[j,vd,g,k,i,.int .i64 s.signed,.int .i64 s.now,.map (some M),.int .i64 er])
  (C:∀f,zS encI w M f->zCe E w f st.built->∃d,zS encI w' M d/\zCe E w' d bu):zQ E Z B0 w' B M l s ⟨er,bu⟩:=by
 have c:=h.low;have n:=h.keeps m;obtain⟨⟨j,vd,g,k,i,q,u,v⟩,⟨f,D,F⟩,x,y,ne,z,e,t⟩:=h;have o:zA Z w w':=n.mono λb _ a=>(z b a).2
 exact⟨⟨j,vd,g,k,i,A _ _ _ _ _ q,zn.keep u o,v.keep o⟩,C f D F,x,y,ne,λb a=>⟨Nat.lt_of_lt_of_le (z b a).1 m.size,(z b a).2⟩,λb a=>⟨Nat.lt_of_lt_of_le (e b a).1 m.size,(e b a).2⟩,t.on (z8 (n.mono λb _(a:b<B0) he=>by have:=(e b he).2;omega) c)⟩
theorem zQ.of(h:zQ E Z B0 w B M l s st)(i:Nat)(hi:i<l.length)(hs:∀m∈l,zH m.when_<=1000000):
  Calls prog 71 #[.pointer (some ⟨B,0,none⟩),.int .i64 i] w (zNH E Z B0 B M l s (ofM s.dom l st i).1 (ofM s.dom l st i).2 w):=by
 have ah:=h.low;have HM:=hid h;obtain⟨⟨vl,vd,va,vz,vc,b1,b2,b3⟩,⟨kv,m1,m2⟩,eb,em,ne,z,e,t⟩:=h;obtain⟨D,a6,rfl⟩:∃A2 Y,vd= .slice A2 s.dom.length Y:=by obtain⟨⟨A2,Y,e,_⟩,_⟩:=b3.d;exact⟨A2,Y,e⟩
 obtain⟨LA,bj,rfl,ch⟩:=zj.form b2;obtain⟨mb,mo,cm,rfl,b5,bf,bg⟩:=zj.at_ b2 hi;obtain⟨FA,a7,rfl,ba,-⟩:=bg.form;have cf:=hs l[i] (List.getElem_mem hi);have bh:zq l i=l[i]:=by unfold zq;simp[hi]
 have q:=hid (show ofM s.dom l st i=(match mapD st.built i with
  |some g=>(g,st)
  |none=>if st.err=0 then((zBp s.dom l[i].when_).1,⟨(zBp s.dom l[i].when_).2,zAp st.built i (zBp s.dom l[i].when_).1⟩)else([],st)) from by unfold ofM;rw[bh];cases mapD st.built i<;>rfl)
 have U:=hid (m2.get i);have P:=m1.of_block (Below.heap_alloc w (.cells #[.slice none 0 0] 74) _ m1.lt);have y:=hid (Blk.new w 74 #[.slice none 0 0]);have O:=hid (zG w (.cells #[.slice none 0 0] 74));have bn:=hid b1;have bk:=hid e;have ac:=hid (And.intro eb em);have cc:B<w.heap.size:=b1.lt;have cd:M<w.heap.size:=m1.lt;have cb:=hid m1;have ca:=hid m2;have aw:=hid ne;have bm:=hid (λ(W:World)(hk:zA (λb=>¬E b) w W)=>zMe Z Z _ l[i].when_ _ s.dom W (FmR.keep (hk.mono λb _ a=>(z b a).2) _ _ ba) (λb a=>Nat.lt_of_lt_of_le (z b a).1 hk.size) (b3.d.keep (hk.mono λb _ a=>(z b a).2)) (λb a=>Nat.lt_of_lt_of_le (z b a).1 hk.size) (by omega) ((t.on (z8 (hk.mono λb _(a:b<B0) he=>by have:=(e b he).2;omega) ah)).mono (Nat.le_trans ah hk.size)));have bv:=hid (λj u hu=>bf j u hu);have b4:=hid (z mb b5);have cg:(i:Int)<(l.length:Int):=by omega
 generalize ofM s.dom l st i=OF at*;clear b1 b2 b3 m1 m2 z e t bf bg ba bh hs;go_enter func71,ntmps71
 go_upto_region 1 with fail
 have L:=λc=>zS.look (w:=w.alloc (.cells #[.slice none 0 0] 74)) P Tryz.keyIntE (t:=69) (e:=74) underlying69 (Tryz.zeroDiaE _) (i:Int) c
 have L:=L true;simp only[if_true,encI]at L;have x:=hid (bn.alloc (.cells #[.slice none 0 0] 74));have aq:=hid P;have b6:w.heap.size<(w.alloc (.cells #[.slice none 0 0] 74)).heap.size :=by simp
 generalize w.alloc _=o at*;clear P;rcases U.out with⟨T,h2⟩|⟨v,g,T,h2,h3⟩
 ·rw[T]at L;simp only[Option.getD_none,Option.isSome_none]at L;rw[h2]at q;dsimp only at q;clear T h2 U;have r7:=x.cell 7;have r8:=x.cell 8;have rl:=x.lt;by_cases he:st.err=0
  ·have b9:=hid he;have V:=hid (q.trans (if_pos he));rw[he]at x r8;clear he q;(go_upto_region 3 with fail);have ag:Bw w (o.alloc (.cells #[.slice none 0 0] 74)):=O.alloc O.size _;have ak:=hid (HM.more ag (E':=λb=>E b\/b=w.heap.size\/b=o.heap.size) (λb a=> .inl a) (λb a=>a.imp id λe=>by simp;omega));clear ag;have bz:=hid (Blk.new o 74 #[.slice none 0 0]);have ax:=hid (x.alloc (.cells #[.slice none 0 0] 74));have ai:=hid (((zA.refl (λ_=>True) w).trans (.of_below O)).alloc (.cells #[.slice none 0 0] 74));have ay:=hid (y.alloc (.cells #[.slice none 0 0] 74));(have ci:o.heap.size<(o.alloc (.cells #[.slice none 0 0] 74)).heap.size :=by simp);generalize o.alloc _=w2 at*;clear L r7 r8 rl x aq
   have HC:=hid (λ(W:World)(hW:zA (λ_=>True) w2 W)=>(show W.cell? ⟨B,0,none⟩=some (.slice (some ⟨mb,mo,none⟩) l.length bj)/\W.cell? ⟨mb,mo+i*12+4,none⟩=some (.int .i64 l[i].when_.op)/\W.cell? ⟨mb,mo+i*12+5,none⟩=some (.string l[i].when_.name)/\W.cell? ⟨mb,mo+i*12+6,none⟩=some (.int .i64 l[i].when_.cmp)/\W.cell? ⟨mb,mo+i*12+7,none⟩=some (.int .i64 l[i].when_.num)/\W.cell? ⟨mb,mo+i*12+8,none⟩=some (.slice FA l[i].when_.kids.length a7)/\W.cell? ⟨B,1,none⟩=some (.slice D s.dom.length a6)/\B<W.heap.size/\mb<W.heap.size from by
    have T:=ax.keep hW trivial;have hk:=ai.trans hW;have hm:=λj u hu=>hk.cell (p:=⟨mb,mo+i*12+j,none⟩) trivial (bv j u hu)
    exact⟨T.at0,hm 4 _ rfl,hm 5 _ rfl,hm 6 _ rfl,hm 7 _ rfl,hm 8 _ rfl,T.at1,T.lt,Nat.lt_of_lt_of_le b4.1 hk.size⟩))
   generalize hG:zBp s.dom l[i].when_ =G at*;have HG:=hid hG;clear hG;refine zY 18 (λW=>zA (λ_=>True) w2 W) (by kernel_rfl) ?_;have aa:zA (λ_=>True) w2 w2.drew:=(zA.refl _ _).drew;have n:(λW=>zA (λ_=>True) w2 W) w2.drew:=aa;generalize w2.drew=x0 at*
   (refine tkQ 0 n ?_;simp only[nr])
   try simp only[nq]
   (refine tkQ 1 n ?_;simp only[nr])
   try simp only[nq]
   (refine tkQ 2 n ?_;simp only[nr])
   try simp only[nq]
   (refine tkQ 3 n ?_;simp only[nr])
   try simp only[nq]
   (refine tkS 4 ?_ n ?_ ?_;rotate_left;intro w k;obtain⟨c0,m4,m5,m6,m7,m8,d1,bl,ml⟩:=HC _ k;clear k;go_simp;(try with_reducible rfl);simp only[nr])
   try simp only[nq]
   (refine tkQ 5 n ?_;simp only[nr])
   try simp only[nq]
   (refine tkQ 6 n ?_;simp only[nr])
   try simp only[nq]
   (refine tkQ 7 n ?_;simp only[nr])
   try simp only[nq]
   (refine tkS 8 ?_ n ?_ ?_;rotate_left;intro w k;obtain⟨c0,m4,m5,m6,m7,m8,d1,bl,ml⟩:=HC _ k;clear k;go_simp;(try with_reducible rfl);simp only[nr])
   try simp only[nq]
   (refine tkQ 9 n ?_;simp only[nr])
   try simp only[nq]
   (refine tkQ 10 n ?_;simp only[nr])
   try simp only[nq]
   (refine tkQ 11 n ?_;simp only[nr])
   try simp only[nq]
   (refine tkQ 12 n ?_;simp only[nr])
   try simp only[nq]
   (refine tkS 13 ?_ n ?_ ?_;rotate_left;intro w k;obtain⟨c0,m4,m5,m6,m7,m8,d1,bl,ml⟩:=HC _ k;clear k;go_simp;(try with_reducible rfl);simp only[nr])
   (try simp only[nq]);clear n;refine wS1 14 (λK H=> ?_);(go_wp2_with fail);refine(bm x0 ((ai.trans aa).mono λ_ _ _=>trivial)).mono ?_;rintro e x1 ⟨v,rfl,hn,a⟩;obtain⟨N,f,rfl,-,-,-⟩:=hn.open_;have I:zA (λ_=>True) w2 x1:=aa.trans (.of_below a);have ar:=hid (hn.mono (Z':=λb=>x0.heap.size<=b) λb h=>h.resolve_left id);refine H _ _ (Or.inr I) ?_;have cj:w2.heap.size<=x0.heap.size:=aa.size;clear H K hn a aa
   (try simp only[nr])
   have n:(λW=>zA (λ_=>True) w2 W) x1:=I
   (refine tkQ 15 n ?_;simp only[nr])
   try simp only[nq]
   (refine tkQ 16 n ?_;simp only[nr])
   try simp only[nq]
   (refine tkQ 17 n ?_;simp only[nr])
   (try simp only[nq]);clear n;have bo:=hid I;have X:=hid (bz.keep I trivial);have a4:=hid (ax.keep I trivial);have az:=hid (ay.keep I trivial);have al:=hid (ak.below I.below);clear I;have q0:=X.at0;have qf:=X.frozen 0;have ql:=X.lt;refine wS1 18 (λK H=> ?_);(go_wp2_with fail);refine H _ _ (Or.inl rfl) ?_;clear H K;(try simp only[nq]);have af:=hid (X.set_ 0 (.slice N G.1.length f));have ab:zA (λb=>b≠o.heap.size) x1 (x1.setCell ⟨o.heap.size,0,none⟩ (.slice N G.1.length f)):=(zA.refl _ _).setCell (λ_ h=>h rfl) _;have bp:=hid (show zA (λb=>b≠B/\b≠M) w (x1.setCell ⟨o.heap.size,0,none⟩ (.slice N G.1.length f)) from((ai.trans bo).mono λ_ _ _=>trivial).setCell (λ(h:o.heap.size<w.heap.size) _=>by omega) _);have b8:w.heap.size<o.heap.size:=b6;(have ck:o.heap.size<x0.heap.size:=by omega);have F:=hid (a4.keep ab (by show B≠o.heap.size;omega));have ae:=hid (az.keep ab (by show w.heap.size≠o.heap.size;omega));have au:=hid (ar.keep (ab.mono λb _ a=>by show b≠o.heap.size;omega));have ad:=hid (show ∀b,E b->b≠o.heap.size/\b<w.heap.size from λb a=>by have:=bk b a;omega)
   have ao:=hid (al.gen (ab.mono λb _ a=>by
    rcases a with a|a|a
    ·exact λe=>a (.inr (.inr e))
    ·omega
    omega))
   clear ab X a4 az ar al q0 qf ql;generalize x1.setCell ⟨o.heap.size,0,none⟩ (.slice N G.1.length f)=x2 at*;refine wS1 19 (λK H=> ?_);(go_wp2_with fail);refine H _ _ (Or.inl rfl) ?_;clear H K
   (try simp only[nr])
   refine wS1 20 (λK H=> ?_);(go_wp2_with fail);refine H _ _ (Or.inl rfl) ?_;clear H K
   (try simp only[nr])
   have q8:=F.cell 8;have qf:=F.frozen 8;have ql:=F.lt;refine wS1 21 (λK H=> ?_);(go_wp2_with fail);refine H _ _ (Or.inl rfl) ?_;clear H K;(try simp only[nq]);refine wSd ?_ _;(go_wp2_with fail);have J:zA (λb=>b≠B) x2 (x2.setCell ⟨B,8,none⟩ (.int .i64 G.2)):=(zA.refl _ _).setCell (λ_ h=>h rfl) _;have ap:=hid (ao.put (er:=G.2) (bu:=st.built) (J.mono λb _ a=>a.1) (λvl vd va vz vc a=>a.set_ 8 (.int .i64 G.2)) λkv m1 m2=>⟨kv,m1.of_block (J.block M m1.lt (Ne.symm aw)),m2.imp λv g hn=>hn.keep (J.mono λb _ a e=>a (.inl (e▸ac.1)))⟩);have a2:=hid (af.keep J (by show o.heap.size≠B;omega));have a0:=hid (ae.keep J (by show w.heap.size≠B;omega));have a5:=hid (F.set_ 8 (.int .i64 G.2));have bw:=hid (au.keep (J.mono λb _ a=>by show b≠B;omega));have bq:=hid (show zA (λb=>b≠B/\b≠M) w (x2.setCell ⟨B,8,none⟩ (.int .i64 G.2)) from bp.trans (J.mono λb _ a=>a.1));clear J ao af ae F au q8 qf ql;generalize x2.setCell ⟨B,8,none⟩ (.int .i64 G.2)=x3 at*
   have HC:=hid (λ(W:World)(hW:zA (λ_=>True) x3 W)=>(show W.cell? ⟨B,7,none⟩=some (.map (some M))/\W.cell? ⟨o.heap.size,0,none⟩=some (.slice N G.1.length f)/\B<W.heap.size/\o.heap.size<W.heap.size from by
    have T:=a5.keep hW trivial;have h2:=a2.keep hW trivial
    exact⟨T.cell 7,h2.at0,T.lt,h2.lt⟩))
   refine zY 6 (λW=>zA (λ_=>True) x3 W) (by kernel_rfl) ?_;have R:zA (λ_=>True) x3 x3.drew:=(zA.refl _ _).drew;have n:(λW=>zA (λ_=>True) x3 W) x3.drew:=R;generalize x3.drew=x4 at*
   (refine tkQ 0 n ?_;simp only[nr])
   try simp only[nq]
   (refine tkQ 1 n ?_;simp only[nr])
   try simp only[nq]
   (refine tkQ 2 n ?_;simp only[nr])
   try simp only[nq]
   (refine tkS 3 ?_ n ?_ ?_;rotate_left;intro w k;obtain⟨b7,y5,bl,yl⟩:=HC _ k;clear k;go_simp;(try with_reducible rfl);simp only[nr])
   try simp only[nq]
   (refine tkQ 4 n ?_;simp only[nr])
   try simp only[nq]
   (refine tkS 5 ?_ n ?_ ?_;rotate_left;intro w k;obtain⟨b7,y5,bl,yl⟩:=HC _ k;clear k;go_simp;(try with_reducible rfl);simp only[nr])
   (try simp only[nq]);clear n;have aj:=hid (ap.below R.below);have b0:=hid (a2.keep R trivial);have a1:=hid (a0.keep R trivial);have av:=hid (bw.keep (R.mono λ_ _ _=>trivial));have br:=hid (bq.trans (R.mono λ_ _ _=>trivial));obtain⟨cl,bc,a8⟩:=aj.map;refine wS1 6 (λK H=> ?_);refine zOL (.tmp 48) (.tmp 49) (.tmp 50) rfl Tryz.keyIntE underlying69 rfl bc (i:Int) rfl ?_;intro x5 bd C bi a9 bb
   have bt:=hid (aj.put (er:=G.2) (bu:=zAp st.built i G.1) (C.mono λb _ a=>a.2) (λvl vd va vz vc a=>a.keep C aw) λkv m1 m2=>⟨_,bd,zCe.set ((av.keep (C.mono λb _ a=>by show b≠M;omega)).mono λb a e=>by
    rcases e with e|e|e
    ·have:=ad b e;omega
    ·omega
    omega) (a8.imp λv g hn=>hn.keep (C.mono λb _ a e=>a (.inl (e▸ac.2))))⟩)
   have a3:=hid (b0.keep C (by show o.heap.size≠M;omega));have Q:=hid (a1.keep C (by show w.heap.size≠M;omega));have bx:=hid (av.keep (C.mono λb _ a=>by show b≠M;omega));have bs:=hid (br.trans (C.mono λb _ a=>a.2));refine H _ _ (Or.inl rfl) ?_;clear H K bc a8 bd C bi a9 bb aj ap
   (try simp only[nr])
   refine wSd ?_ _;have y0:=a3.at0;have yl:=a3.lt;have o0:=Q.at0;have cn:=Q.frozen 0;have ol:=Q.lt;(go_wp2_with fail);have A:zA (λb=>b≠w.heap.size) x5 (x5.setCell ⟨w.heap.size,0,none⟩ (.slice N G.1.length f)):=(zA.refl _ _).setCell (λ_ h=>h rfl) _;have hB:=Q.set_ 0 (.slice N G.1.length f);have q0:=hB.at0;have hO:=V.out;subst hO;refine bodyPost_ret (v:= .agg #[.slice N G.1.length f]) (by simp[results,results71,go_sem,q0]) rfl ?_
   exact⟨N,f,rfl,(bx.keep (A.mono λb _ a=>by show b≠w.heap.size;omega)).mono λb a e=>by have:=ad b e;omega,(bt.gen (A.mono λb _ a=>by
     rcases a with a|a|a
     ·exact λe=>a (.inr (.inl e))
     ·omega
     omega)).less (λb a=> .inl a) ac.1 ac.2,bs.setCell (λh _=>by simp at h) _⟩
  have V:=hid (q.trans (if_neg he));have ce:(st.err==(0:Int))=false:=by simp[he]
  have x0:=y.at0;have xf:=y.frozen 0;have xl:=y.lt;clear he q;go_wp2_with fail
  have hB:=(y.set_ 0 (.slice none 0 0)).alloc (.cells #[.slice none 0 0] 74);have A:Bw w ((o.setCell ⟨w.heap.size,0,none⟩ (.slice none 0 0)).alloc (.cells #[.slice none 0 0] 74)):=(O.setCell (by simp) _).alloc (by have:=O.size;simp[World.setCell];omega) _;have q0:=hB.at0;have hO:=V.out;subst hO;refine bodyPost_ret (v:= .agg #[.slice none 0 0]) (by simp[results,results71,go_sem,q0]) rfl ?_;exact⟨none,0,rfl,zQo _ _,HM.below A,.of_below A⟩
 rw[T]at L;simp only[Option.getD_some,Option.isSome_some]at L;rw[h2]at q;dsimp only at q;obtain⟨N,f,rfl,-⟩:=h3.open_;have HN:=hid h3;clear T h2 h3 U;have r7:=x.cell 7;have r8:=x.cell 8;have rl:=x.lt;have x0:=y.at0;have xf:=y.frozen 0;have xl:=y.lt;go_wp2_with fail
 have hB:=(y.set_ 0 (.slice N g.length f)).alloc (.cells #[.slice N g.length f] 74);have A:Bw w ((o.setCell ⟨w.heap.size,0,none⟩ (.slice N g.length f)).alloc (.cells #[.slice N g.length f] 74)):=(O.setCell (by simp) _).alloc (by have:=O.size;simp[World.setCell];omega) _;have q0:=hB.at0;have hO:=q.out;subst hO;refine bodyPost_ret (v:= .agg #[.slice N g.length f]) (by simp[results,results71,go_sem,q0]) rfl ?_;exact⟨N,f,rfl,HN.keep (.of_below A),HM.below A,.of_below A⟩
theorem zJ7{p:Nat->Bool}(k:Nat):(List.range (k+1)).filter p=(List.range k).filter p++(if p k=true then[k]else[]):=by
 rw[List.range_succ,List.filter_append];congr 1;simp only[List.filter];cases p k<;>rfl
def ints(l:List Nat):List Value:=l.map λ(i:Nat)=>Value.int .i64 (i:Int)
theorem zQ.applies(h:zQ E Z B0 w B M l s st)(P1 P2 P3:Nat)(kd sg nw:Int)(ag:Blk w P1 68 #[.pointer (some ⟨B,0,none⟩)])(ao:Blk w P2 3 #[.int .i64 sg])(aq:Blk w P3 3 #[.int .i64 nw])(aw:s.zones.length=s.auths.length)(hn:l.length<=200):
  Calls prog 68 #[.int .i64 kd,.pointer (some ⟨P1,0,none⟩),.pointer (some ⟨P2,0,none⟩),.pointer (some ⟨P3,0,none⟩)] w λe w'=>∃v,e= .returned v/\w'.ownsRow w.heap.size 3 1 v (zBJ l s sg nw kd).length (ints (zBJ l s sg nw kd))/\Bw w w':=by
 obtain⟨⟨vl,vd,va,vz,vc,b1,b2,b3⟩,-,eb,em,ne,z,e,t⟩:=h;obtain⟨LA,b8,rfl,cd⟩:=zj.form b2;obtain⟨AA,bd,rfl,ca,cb,b9⟩:=b3.a.form;obtain⟨ZA,bk,rfl,bj⟩:=b3.z.form;have bm:=hid (λk(hk:k<l.length)=>zn.cells b2 (P:=λb=>b<w.heap.size) (λb hb=>(z b hb).1) hk);have bo:=hid (λ(x:ByteArray) W(L:Bw w W)=>zOI Z _ s.auths x W (b3.a.keep (.of_below L)));have bs:=hid (λk(hk:k<s.zones.length)=>zCy.at_ b3.z hk);have az:=hid (λ(m:zF)(a0 a1 J a4 a5 a6 a7 a8:Value)(v:Value)(zo:zp)(hv:zB4 Z w v zo) W(L:Bw w W)=>zJC Z a0 a1 J a4 a5 a6 a7 a8 m v zo sg nw W (hv.keep (.of_below L)) (λb hb=>Nat.lt_of_lt_of_le (z b hb).1 L.size));have al:=hid b1;have ba:=hid ag;have bb:=hid ao;have bc:=hid aq;have bt:=hid aw;have q0:=ag.at0;have ql:=ag.lt;have r0:=b1.at0;have rl:=b1.lt;have b5:=ao.lt;have b6:=aq.lt;rw[aw]at al;clear b1 b2 b3 eb em z e t ag ao aq bj aw;have ax:=hid (show zBJ l s sg nw kd=(List.range l.length).filter (λi=>zFF s sg nw kd (zq l i)) from rfl);generalize zBJ l s sg nw kd=AL at*;obtain⟨px,av⟩:∃px:Nat->Bool,px=λi=>zFF s sg nw kd (zq l i):=⟨_,rfl⟩
 rw[<-av]at ax
 have bq:=hid (show ∀k(hk:k<l.length),px k=(decide (placeOf s.auths l[k].auth <s.auths.length)&&decide (l[k].kind =kd)&&zD2 l[k] (zA5 s.zones (placeOf s.auths l[k].auth)) sg nw) from λk hk=>by
  rw[av];show zFF s sg nw kd (zq l k)=_;unfold zq;rw[List.getD_eq_getElem?_getD,List.getElem?_eq_getElem hk];rfl)
 clear av;go_enter func68,ntmps68
 go_wp2_with fail
 clear q0 ql r0 rl;go_loopw[6,7,8,9,15] (λv6 _ _ _ i wr=>∃(k:Nat),k<=l.length/\i= .int .i64 k/\Hid (wr.ownsRow w.heap.size 3 1 v6 ((List.range k).filter px).length (ints ((List.range k).filter px)))/\Bw w wr) (λ_ _ _ _ i _=>l.length-(intOf i).toNat);case atStart=>exact⟨0,Nat.zero_le _,rfl,zBi _ _ _ _,Below.refl _ _⟩
 case round=>
  obtain⟨k,hk,rfl,ah,G⟩:=hrel;by_cases bh:k<l.length
  ·obtain⟨b,ch,FA,N,rfl,bv,dc⟩:=bm k bh;obtain⟨c0,c1,c2,c3,c4,c5,c6,c7,c8,c9,bf,bg⟩:=zBQ (λj u hu=>(G.cell (p:=⟨b,_,none⟩) bv).trans (dc j u hu));have bw:=lt_of_cell c0;have ab:=hid (bq k bh);have ac:=hid (bo l[k].auth);have ai:=hid (az l[k]);have ae:=hid (zJ7 (p:=px) k);have b4:((List.range k).filter px).length <=k:=Nat.le_trans (List.length_filter_le _ _) (by rw[List.length_range];exact Nat.le_refl _);generalize (List.range k).filter px=LK at*;generalize px k=pk at*;clear dc;generalize l[k]=m at*;obtain⟨id,au,aa,tg,⟨op,nm,cm,nu,kids⟩,fr,un,wi⟩:=m;simp only[Fm.op,Fm.name,Fm.cmp,Fm.num,Fm.kids]at ab ac ai c0 c1 c2 c3 c4 c5 c6 c7 c8 c9 bf bg;generalize kids.length=kl at*;generalize placeOf s.auths au=pc at*;obtain⟨ix,T⟩:∃ix:Int,(if pc<s.auths.length then(pc:Int)else-1)=ix:=⟨_,rfl⟩;rw[T]at ac;have aj:=hid T;clear T;(have cc:(k:Int)<(l.length:Int):=by omega);have H:=hid (G.alloc G.size (.cells #[.string id,.string au,.int .i64 aa,.string tg,.int .i64 op,.string nm,.int .i64 cm,.int .i64 nu,.slice FA kl N,.int .i64 fr,.int .i64 un,.int .i64 wi] 54));have br:=hid (Blk.new wr 54 #[.string id,.string au,.int .i64 aa,.string tg,.int .i64 op,.string nm,.int .i64 cm,.int .i64 nu,.slice FA kl N,.int .i64 fr,.int .i64 un,.int .i64 wi]);have ad:=hid (ah.alloc (.cells #[.string id,.string au,.int .i64 aa,.string tg,.int .i64 op,.string nm,.int .i64 cm,.int .i64 nu,.slice FA kl N,.int .i64 fr,.int .i64 un,.int .i64 wi] 54));have cg:w.heap.size<=wr.heap.size:=G.size;(go_upto_region 5 with fail);clear c0 c1 c2 c3 c4 c5 c6 c7 c8 c9 bf bg bw G ah;generalize wr.alloc _=w5 at*;generalize wr.heap.size=X5 at*
   have C:=hid (λ(W:World)(L:zA (λ_=>True) w5 W)=>(show(W.cell? ⟨X5,0,none⟩=some (.string id)/\W.cell? ⟨X5,1,none⟩=some (.string au)/\W.cell? ⟨X5,2,none⟩=some (.int .i64 aa)/\W.cell? ⟨X5,3,none⟩=some (.string tg)/\W.cell? ⟨X5,4,none⟩=some (.int .i64 op)/\W.cell? ⟨X5,5,none⟩=some (.string nm)/\W.cell? ⟨X5,6,none⟩=some (.int .i64 cm)/\W.cell? ⟨X5,7,none⟩=some (.int .i64 nu)/\W.cell? ⟨X5,8,none⟩=some (.slice FA kl N)/\W.cell? ⟨X5,9,none⟩=some (.int .i64 fr)/\W.cell? ⟨X5,10,none⟩=some (.int .i64 un)/\W.cell? ⟨X5,11,none⟩=some (.int .i64 wi)/\X5<W.heap.size)/\(W.cell? ⟨P1,0,none⟩=some (.pointer (some ⟨B,0,none⟩))/\P1<W.heap.size/\W.cell? ⟨P2,0,none⟩=some (.int .i64 sg)/\P2<W.heap.size/\W.cell? ⟨P3,0,none⟩=some (.int .i64 nw)/\P3<W.heap.size)/\W.cell? ⟨B,2,none⟩=some (.slice AA s.auths.length bd)/\W.cell? ⟨B,3,none⟩=some (.slice ZA s.auths.length bk)/\B<W.heap.size from by
    have hk:Bw w W:=H.trans (L.below.mono H.size);have h1:=br.keep L trivial;have h2:=ba.below hk ba.lt;have h3:=bb.below hk bb.lt;have h4:=bc.below hk bc.lt;have h5:=al.below hk al.lt
    exact⟨⟨h1.at0,h1.at1,h1.at2,h1.at3,h1.at4,h1.cell 5,h1.cell 6,h1.cell 7,h1.cell 8,h1.cell 9,h1.cell 10,h1.cell 11,h1.lt⟩,⟨h2.at0,h2.lt,h3.at0,h3.lt,h4.at0,h4.lt⟩,h5.at2,h5.at3,h5.lt⟩))
   refine zY 8 (λW=>zA (λ_=>True) w5 W) (by kernel_rfl) ?_;have c:(λW=>zA (λ_=>True) w5 W) w5.drew:=(zA.refl _ _).drew;have af:zA (λ_=>True) w5 w5.drew:=(zA.refl _ _).drew;generalize w5.drew=n at*
   (refine tkS 0 ?_ c ?_ ?_;rotate_left;intro w d;obtain⟨⟨V,X,Y,p3,p4,p5,p6,p7,p8,p9,o,q,pl⟩,⟨s0,sl,t0,tl,u0,ul⟩,O,J,Q⟩:=C _ d;clear d;go_simp;(try with_reducible rfl);simp only[nr])
   try simp only[nq]
   (refine tkQ 1 c ?_;simp only[nr])
   try simp only[nq]
   (refine tkQ 2 c ?_;simp only[nr])
   try simp only[nq]
   (refine tkQ 3 c ?_;simp only[nr])
   try simp only[nq]
   (refine tkS 4 ?_ c ?_ ?_;rotate_left;intro w d;obtain⟨⟨V,X,Y,p3,p4,p5,p6,p7,p8,p9,o,q,pl⟩,⟨s0,sl,t0,tl,u0,ul⟩,O,J,Q⟩:=C _ d;clear d;go_simp;(try with_reducible rfl);simp only[nr])
   try simp only[nq]
   (refine tkQ 5 c ?_;simp only[nr])
   try simp only[nq]
   (refine tkS 6 ?_ c ?_ ?_;rotate_left;intro w d;obtain⟨⟨V,X,Y,p3,p4,p5,p6,p7,p8,p9,o,q,pl⟩,⟨s0,sl,t0,tl,u0,ul⟩,O,J,Q⟩:=C _ d;clear d;go_simp;(try with_reducible rfl);simp only[nr])
   (try simp only[nq]);clear c;refine wS1 7 (λK D=> ?_);(go_wp2_with fail);refine(ac n (zC H af.below)).mono ?_;rintro e n ⟨rfl,rfl⟩;refine D _ _ (Or.inr af) ?_;clear D K
   (try simp only[nr])
   refine wS1 8 (λK D=> ?_);(go_wp2_with fail);refine D _ _ (Or.inl rfl) ?_;clear D K;(try simp only[nq]);refine wSd ?_ _;have y:=hid af;clear af;(go_upto_region 6 with fail);by_cases hp:pc<s.auths.length
   ·have T:=aj.out;rw[if_pos hp]at T;subst T;have HP:=hid hp;obtain⟨zb,zo,bu,bz,rfl,b7,ak,dz,bi⟩:=bs pc (by rw[bt.out];exact hp);have ay:=hid (λx(hx:zA (λ_=>True) n x)=>ai (.string id) (.string au) (.string tg) (.int .i64 op) (.string nm) (.int .i64 cm) (.int .i64 nu) (.slice FA kl N) _ _ bi x (zC H (y.trans hx).below))
    have a9:=hid (λ(W:World)(L:zA (λ_=>True) n W)=>(show W.cell? ⟨zb,zo+pc,none⟩=some (.slice bu (zA5 s.zones pc).length bz)/\zb<W.heap.size from by
     have h1:=(zC H (y.trans L).below).cell (p:=⟨zb,zo+pc,none⟩) ak;have h2:=h1.trans dz
     exact⟨h2,lt_of_cell h2⟩))
    clear dz bi ak;generalize (zA5 s.zones pc).length =ci at*;(have cf:(pc:Int)<(s.auths.length:Int):=by omega);(have ce:((0:Int)<=(pc:Int))=True:=by simp);generalize zD2 _ (zA5 s.zones pc) sg nw=ap at*;clear hp;by_cases U:aa=kd
    ·have f:=hid U;clear U;cases ap
     ·skip
      have C:=hid (λ(W:World)(L:zA (λ_=>True) n W)=>And.intro (C W (y.trans L)) (a9 W L));refine zY 21 (λW=>zA (λ_=>True) n W) (by kernel_rfl) ?_;have c:(λW:World=>zA (λ_=>True) n W) n.drew:=(zA.refl _ _).drew;have A:zA (λ_=>True) n n.drew:=(zA.refl _ _).drew;generalize n.drew=x1 at*
      (refine tkQ 0 c ?_;simp only[nr])
      try simp only[nq]
      (refine tkC 1 [3,4,8,21] ?_ c ?_ ?_;rotate_left;intro w d;obtain⟨⟨⟨V,X,Y,p3,p4,p5,p6,p7,p8,p9,o,q,pl⟩,⟨s0,sl,t0,tl,u0,ul⟩,O,J,Q⟩,z0,zl⟩:=C _ d;clear d;go_simp;(try with_reducible rfl);simp only[nr])
      try simp only[nq]
      (refine tkQ 2 c ?_;simp only[nr])
      (try simp only[nq]);refine tkZ 3 (.bool true) c (λW=> ?_) ?_
      ·go_simp;first|exact f.out|(rw[f.out])|simp[f.out]
      (try simp only[nr])
      (refine tkQ 4 c ?_;simp only[nr])
      try simp only[nq]
      (refine tkQ 5 c ?_;simp only[nr])
      (try simp only[nq]);refine tkZ 6 (.bool true) c (λW=> ?_) ?_
      ·go_simp
      (try simp only[nr])
      (refine tkQ 7 c ?_;simp only[nr])
      try simp only[nq]
      (refine tkQ 8 c ?_;simp only[nr])
      try simp only[nq]
      (refine tkC 9 [20,21] ?_ c ?_ ?_;rotate_left;intro w d;obtain⟨⟨⟨V,X,Y,p3,p4,p5,p6,p7,p8,p9,o,q,pl⟩,⟨s0,sl,t0,tl,u0,ul⟩,O,J,Q⟩,z0,zl⟩:=C _ d;clear d;go_simp;(try with_reducible rfl);simp only[nr])
      try simp only[nq]
      (refine tkC 10 [11,12,13,14,16,17,20,21] ?_ c ?_ ?_;rotate_left;intro w d;obtain⟨⟨⟨V,X,Y,p3,p4,p5,p6,p7,p8,p9,o,q,pl⟩,⟨s0,sl,t0,tl,u0,ul⟩,O,J,Q⟩,z0,zl⟩:=C _ d;clear d;go_simp;(try with_reducible rfl);simp only[nr])
      try simp only[nq]
      (refine tkQ 11 c ?_;simp only[nr])
      try simp only[nq]
      (refine tkQ 12 c ?_;simp only[nr])
      try simp only[nq]
      (refine tkQ 13 c ?_;simp only[nr])
      try simp only[nq]
      (refine tkC 14 [16,17,20,21] ?_ c ?_ ?_;rotate_left;intro w d;obtain⟨⟨⟨V,X,Y,p3,p4,p5,p6,p7,p8,p9,o,q,pl⟩,⟨s0,sl,t0,tl,u0,ul⟩,O,J,Q⟩,z0,zl⟩:=C _ d;clear d;go_simp;(try with_reducible rfl);simp only[nr])
      try simp only[nq]
      (refine tkQ 15 c ?_;simp only[nr])
      try simp only[nq]
      (refine tkQ 16 c ?_;simp only[nr])
      try simp only[nq]
      (refine tkC 17 [20,21] ?_ c ?_ ?_;rotate_left;intro w d;obtain⟨⟨⟨V,X,Y,p3,p4,p5,p6,p7,p8,p9,o,q,pl⟩,⟨s0,sl,t0,tl,u0,ul⟩,O,J,Q⟩,z0,zl⟩:=C _ d;clear d;go_simp;(try with_reducible rfl);simp only[nr])
      try simp only[nq]
      (refine tkC 18 [20,21] ?_ c ?_ ?_;rotate_left;intro w d;obtain⟨⟨⟨V,X,Y,p3,p4,p5,p6,p7,p8,p9,o,q,pl⟩,⟨s0,sl,t0,tl,u0,ul⟩,O,J,Q⟩,z0,zl⟩:=C _ d;clear d;go_simp;(try with_reducible rfl);simp only[nr])
      try simp only[nq]
      (refine tkC 19 [20,21] ?_ c ?_ ?_;rotate_left;intro w d;obtain⟨⟨⟨V,X,Y,p3,p4,p5,p6,p7,p8,p9,o,q,pl⟩,⟨s0,sl,t0,tl,u0,ul⟩,O,J,Q⟩,z0,zl⟩:=C _ d;clear d;go_simp;(try with_reducible rfl);simp only[nr])
      (try simp only[nq]);clear c;refine wSG 20 (λK D=> ?_);(go_wp2_with fail);refine(ay x1 A).mono ?_;rintro e x2 ⟨rfl,hb⟩;have R:zA (λ_=>True) n x2:=A.trans (.of_below hb);refine D _ _ (Or.inr R) ?_;clear D K hb
      (try simp only[nr])
      have c:(λW:World=>zA (λ_=>True) n W) x2:=R;clear c;refine wS1 21 (λK D=> ?_);(go_wp2_with fail);refine D _ _ (Or.inl rfl) ?_;clear D K;(try simp only[nq]);refine wSd ?_ _;have g:=hid R;clear A R;have F:=hid (zC H (y.trans g).below);have I:=hid (zXL (Z:=λ_=>True) ad (y.trans g) λ_ _=>trivial);(go_wp2_with fail);go_roundw;(case rel=>exact⟨k+1,by omega,by go_num,hid (by rw[ae.out,ab.out];simpa[f.out,HP.out]using I.out),F⟩);case measure=>simp[intOf];omega
     skip
     have C:=hid (λ(W:World)(L:zA (λ_=>True) n W)=>And.intro (C W (y.trans L)) (a9 W L));refine zY 21 (λW=>zA (λ_=>True) n W) (by kernel_rfl) ?_;have c:(λW:World=>zA (λ_=>True) n W) n.drew:=(zA.refl _ _).drew;have A:zA (λ_=>True) n n.drew:=(zA.refl _ _).drew;generalize n.drew=x1 at*
     (refine tkQ 0 c ?_;simp only[nr])
     try simp only[nq]
     (refine tkC 1 [3,4,8,21] ?_ c ?_ ?_;rotate_left;intro w d;obtain⟨⟨⟨V,X,Y,p3,p4,p5,p6,p7,p8,p9,o,q,pl⟩,⟨s0,sl,t0,tl,u0,ul⟩,O,J,Q⟩,z0,zl⟩:=C _ d;clear d;go_simp;(try with_reducible rfl);simp only[nr])
     try simp only[nq]
     (refine tkQ 2 c ?_;simp only[nr])
     (try simp only[nq]);refine tkZ 3 (.bool true) c (λW=> ?_) ?_
     ·go_simp;first|exact f.out|(rw[f.out])|simp[f.out]
     (try simp only[nr])
     (refine tkQ 4 c ?_;simp only[nr])
     try simp only[nq]
     (refine tkQ 5 c ?_;simp only[nr])
     (try simp only[nq]);refine tkZ 6 (.bool true) c (λW=> ?_) ?_
     ·go_simp
     (try simp only[nr])
     (refine tkQ 7 c ?_;simp only[nr])
     try simp only[nq]
     (refine tkQ 8 c ?_;simp only[nr])
     try simp only[nq]
     (refine tkC 9 [20,21] ?_ c ?_ ?_;rotate_left;intro w d;obtain⟨⟨⟨V,X,Y,p3,p4,p5,p6,p7,p8,p9,o,q,pl⟩,⟨s0,sl,t0,tl,u0,ul⟩,O,J,Q⟩,z0,zl⟩:=C _ d;clear d;go_simp;(try with_reducible rfl);simp only[nr])
     try simp only[nq]
     (refine tkC 10 [11,12,13,14,16,17,20,21] ?_ c ?_ ?_;rotate_left;intro w d;obtain⟨⟨⟨V,X,Y,p3,p4,p5,p6,p7,p8,p9,o,q,pl⟩,⟨s0,sl,t0,tl,u0,ul⟩,O,J,Q⟩,z0,zl⟩:=C _ d;clear d;go_simp;(try with_reducible rfl);simp only[nr])
     try simp only[nq]
     (refine tkQ 11 c ?_;simp only[nr])
     try simp only[nq]
     (refine tkQ 12 c ?_;simp only[nr])
     try simp only[nq]
     (refine tkQ 13 c ?_;simp only[nr])
     try simp only[nq]
     (refine tkC 14 [16,17,20,21] ?_ c ?_ ?_;rotate_left;intro w d;obtain⟨⟨⟨V,X,Y,p3,p4,p5,p6,p7,p8,p9,o,q,pl⟩,⟨s0,sl,t0,tl,u0,ul⟩,O,J,Q⟩,z0,zl⟩:=C _ d;clear d;go_simp;(try with_reducible rfl);simp only[nr])
     try simp only[nq]
     (refine tkQ 15 c ?_;simp only[nr])
     try simp only[nq]
     (refine tkQ 16 c ?_;simp only[nr])
     try simp only[nq]
     (refine tkC 17 [20,21] ?_ c ?_ ?_;rotate_left;intro w d;obtain⟨⟨⟨V,X,Y,p3,p4,p5,p6,p7,p8,p9,o,q,pl⟩,⟨s0,sl,t0,tl,u0,ul⟩,O,J,Q⟩,z0,zl⟩:=C _ d;clear d;go_simp;(try with_reducible rfl);simp only[nr])
     try simp only[nq]
     (refine tkC 18 [20,21] ?_ c ?_ ?_;rotate_left;intro w d;obtain⟨⟨⟨V,X,Y,p3,p4,p5,p6,p7,p8,p9,o,q,pl⟩,⟨s0,sl,t0,tl,u0,ul⟩,O,J,Q⟩,z0,zl⟩:=C _ d;clear d;go_simp;(try with_reducible rfl);simp only[nr])
     try simp only[nq]
     (refine tkC 19 [20,21] ?_ c ?_ ?_;rotate_left;intro w d;obtain⟨⟨⟨V,X,Y,p3,p4,p5,p6,p7,p8,p9,o,q,pl⟩,⟨s0,sl,t0,tl,u0,ul⟩,O,J,Q⟩,z0,zl⟩:=C _ d;clear d;go_simp;(try with_reducible rfl);simp only[nr])
     (try simp only[nq]);clear c;refine wSG 20 (λK D=> ?_);(go_wp2_with fail);refine(ay x1 A).mono ?_;rintro e x2 ⟨rfl,hb⟩;have R:zA (λ_=>True) n x2:=A.trans (.of_below hb);refine D _ _ (Or.inr R) ?_;clear D K hb
     (try simp only[nr])
     have c:(λW:World=>zA (λ_=>True) n W) x2:=R;clear c;refine wS1 21 (λK D=> ?_);(go_wp2_with fail);refine D _ _ (Or.inl rfl) ?_;clear D K;(try simp only[nq]);refine wSd ?_ _;have g:=hid R;clear A R;have F:=hid (zC H (y.trans g).below);have I:=hid ((zXL (Z:=λ_=>True) ad (y.trans g) λ_ _=>trivial).alloc (.cells #[.int .i64 k] 3));go_wp2_with(at_builtin;refine zh rfl (.tmp 50) (.tmp 52) _ rfl underlying33 Tryz.eIntE rfl I rfl (news:=[.int .i64 k]) rfl (one_cell (by simp)) (by simp[Value.oneCell']) (by unfold maxLen;omega) (by omega) (by have:=F.size;simp;omega) ?_;intro v9 w9 ar bx b0);go_roundw;(case rel=>exact⟨k+1,by omega,by go_num,hid (by rw[ae.out,ab.out];simpa[f.out,HP.out,ints]using ar),zAs (F.alloc F.size _) I bx (by have:=F.size;simp;omega) (Nat.le_refl _)⟩);case measure=>simp[intOf];omega
    have f:=hid U;clear U;have C:=hid (λ(W:World)(L:zA (λ_=>True) n W)=>C W (y.trans L));refine zY 21 (λW=>zA (λ_=>True) n W) (by kernel_rfl) ?_;have c:(λW:World=>zA (λ_=>True) n W) n.drew:=(zA.refl _ _).drew;have A:zA (λ_=>True) n n.drew:=(zA.refl _ _).drew;generalize n.drew=x1 at*
    (refine tkQ 0 c ?_;simp only[nr])
    try simp only[nq]
    (refine tkC 1 [3,4,8,21] ?_ c ?_ ?_;rotate_left;intro w d;obtain⟨⟨V,X,Y,p3,p4,p5,p6,p7,p8,p9,o,q,pl⟩,⟨s0,sl,t0,tl,u0,ul⟩,O,J,Q⟩:=C _ d;clear d;go_simp;(try with_reducible rfl);simp only[nr])
    try simp only[nq]
    (refine tkQ 2 c ?_;simp only[nr])
    (try simp only[nq]);refine tkZ 3 (.bool false) c (λW=> ?_) ?_
    ·go_simp;first|exact f.out|(rw[f.out])|simp[f.out]
    (try simp only[nr])
    (refine tkQ 4 c ?_;simp only[nr])
    (try simp only[nq]);refine tkN 5 c ?_;(try simp only[nq]);refine tkN 6 c ?_;try simp only[nq]
    (refine tkQ 7 c ?_;simp only[nr])
    try simp only[nq]
    (refine tkQ 8 c ?_;simp only[nr])
    (try simp only[nq]);refine tkN 9 c ?_;(try simp only[nq]);refine tkN 10 c ?_;(try simp only[nq]);refine tkN 11 c ?_;(try simp only[nq]);refine tkN 12 c ?_;(try simp only[nq]);refine tkN 13 c ?_;(try simp only[nq]);refine tkN 14 c ?_;(try simp only[nq]);refine tkN 15 c ?_;(try simp only[nq]);refine tkN 16 c ?_;(try simp only[nq]);refine tkN 17 c ?_;(try simp only[nq]);refine tkN 18 c ?_;(try simp only[nq]);refine tkN 19 c ?_;(try simp only[nq]);refine tkN 20 c ?_;(try simp only[nq]);clear c;refine wS1 21 (λK D=> ?_);(go_wp2_with fail);refine D _ _ (Or.inl rfl) ?_;clear D K;(try simp only[nq]);refine wSd ?_ _;have g:=hid A;clear A;have F:=hid (zC H (y.trans g).below);have I:=hid (zXL (Z:=λ_=>True) ad (y.trans g) λ_ _=>trivial);(go_wp2_with fail);go_roundw;(case rel=>exact⟨k+1,by omega,by go_num,hid (by rw[ae.out,ab.out];simpa[f.out,HP.out]using I.out),F⟩);case measure=>simp[intOf];omega
   have T:=aj.out;rw[if_neg hp]at T;subst T;have HP:=hid hp;clear hp;by_cases U:aa=kd
   ·have f:=hid U;clear U;have C:=hid (λ(W:World)(L:zA (λ_=>True) n W)=>C W (y.trans L));refine zY 21 (λW=>zA (λ_=>True) n W) (by kernel_rfl) ?_;have c:(λW:World=>zA (λ_=>True) n W) n.drew:=(zA.refl _ _).drew;have A:zA (λ_=>True) n n.drew:=(zA.refl _ _).drew;generalize n.drew=x1 at*
    (refine tkQ 0 c ?_;simp only[nr])
    try simp only[nq]
    (refine tkC 1 [3,4,8,21] ?_ c ?_ ?_;rotate_left;intro w d;obtain⟨⟨V,X,Y,p3,p4,p5,p6,p7,p8,p9,o,q,pl⟩,⟨s0,sl,t0,tl,u0,ul⟩,O,J,Q⟩:=C _ d;clear d;go_simp;(try with_reducible rfl);simp only[nr])
    try simp only[nq]
    (refine tkQ 2 c ?_;simp only[nr])
    (try simp only[nq]);refine tkZ 3 (.bool true) c (λW=> ?_) ?_
    ·go_simp;first|exact f.out|(rw[f.out])|simp[f.out]
    (try simp only[nr])
    (refine tkQ 4 c ?_;simp only[nr])
    try simp only[nq]
    (refine tkQ 5 c ?_;simp only[nr])
    (try simp only[nq]);refine tkZ 6 (.bool false) c (λW=> ?_) ?_
    ·go_simp
    (try simp only[nr])
    (refine tkQ 7 c ?_;simp only[nr])
    try simp only[nq]
    (refine tkQ 8 c ?_;simp only[nr])
    (try simp only[nq]);refine tkN 9 c ?_;(try simp only[nq]);refine tkN 10 c ?_;(try simp only[nq]);refine tkN 11 c ?_;(try simp only[nq]);refine tkN 12 c ?_;(try simp only[nq]);refine tkN 13 c ?_;(try simp only[nq]);refine tkN 14 c ?_;(try simp only[nq]);refine tkN 15 c ?_;(try simp only[nq]);refine tkN 16 c ?_;(try simp only[nq]);refine tkN 17 c ?_;(try simp only[nq]);refine tkN 18 c ?_;(try simp only[nq]);refine tkN 19 c ?_;(try simp only[nq]);refine tkN 20 c ?_;(try simp only[nq]);clear c;refine wS1 21 (λK D=> ?_);(go_wp2_with fail);refine D _ _ (Or.inl rfl) ?_;clear D K;(try simp only[nq]);refine wSd ?_ _;have g:=hid A;clear A;have F:=hid (zC H (y.trans g).below);have I:=hid (zXL (Z:=λ_=>True) ad (y.trans g) λ_ _=>trivial);(go_wp2_with fail);go_roundw;(case rel=>exact⟨k+1,by omega,by go_num,hid (by rw[ae.out,ab.out];simpa[f.out,HP.out]using I.out),F⟩);case measure=>simp[intOf];omega
   have f:=hid U;clear U;have C:=hid (λ(W:World)(L:zA (λ_=>True) n W)=>C W (y.trans L));refine zY 21 (λW=>zA (λ_=>True) n W) (by kernel_rfl) ?_;have c:(λW:World=>zA (λ_=>True) n W) n.drew:=(zA.refl _ _).drew;have A:zA (λ_=>True) n n.drew:=(zA.refl _ _).drew;generalize n.drew=x1 at*
   (refine tkQ 0 c ?_;simp only[nr])
   try simp only[nq]
   (refine tkC 1 [3,4,8,21] ?_ c ?_ ?_;rotate_left;intro w d;obtain⟨⟨V,X,Y,p3,p4,p5,p6,p7,p8,p9,o,q,pl⟩,⟨s0,sl,t0,tl,u0,ul⟩,O,J,Q⟩:=C _ d;clear d;go_simp;(try with_reducible rfl);simp only[nr])
   try simp only[nq]
   (refine tkQ 2 c ?_;simp only[nr])
   (try simp only[nq]);refine tkZ 3 (.bool false) c (λW=> ?_) ?_
   ·go_simp;first|exact f.out|(rw[f.out])|simp[f.out]
   (try simp only[nr])
   (refine tkQ 4 c ?_;simp only[nr])
   (try simp only[nq]);refine tkN 5 c ?_;(try simp only[nq]);refine tkN 6 c ?_;try simp only[nq]
   (refine tkQ 7 c ?_;simp only[nr])
   try simp only[nq]
   (refine tkQ 8 c ?_;simp only[nr])
   (try simp only[nq]);refine tkN 9 c ?_;(try simp only[nq]);refine tkN 10 c ?_;(try simp only[nq]);refine tkN 11 c ?_;(try simp only[nq]);refine tkN 12 c ?_;(try simp only[nq]);refine tkN 13 c ?_;(try simp only[nq]);refine tkN 14 c ?_;(try simp only[nq]);refine tkN 15 c ?_;(try simp only[nq]);refine tkN 16 c ?_;(try simp only[nq]);refine tkN 17 c ?_;(try simp only[nq]);refine tkN 18 c ?_;(try simp only[nq]);refine tkN 19 c ?_;(try simp only[nq]);refine tkN 20 c ?_;(try simp only[nq]);clear c;refine wS1 21 (λK D=> ?_);(go_wp2_with fail);refine D _ _ (Or.inl rfl) ?_;clear D K;(try simp only[nq]);refine wSd ?_ _;have g:=hid A;clear A;have F:=hid (zC H (y.trans g).below);have I:=hid (zXL (Z:=λ_=>True) ad (y.trans g) λ_ _=>trivial);(go_wp2_with fail);go_roundw;(case rel=>exact⟨k+1,by omega,by go_num,hid (by rw[ae.out,ab.out];simpa[f.out,HP.out]using I.out),F⟩);case measure=>simp[intOf];omega
  obtain rfl:k=l.length:=by omega
  have bp:=hid ah.out;have bn:=hid G;clear ah G;go_wp2_with fail
  go_ret;exact⟨_,rfl,by rw[ax.out];exact bp.out,bn⟩
def zEh(E:zD)(w:World):List (ByteArray × Value)->List (ByteArray × List zB)->Prop
 |[],[]=>True
 |p::kv,q::b=>p.1=q.1/\(∃v,p.2= .agg #[v]/\zK (λb=>¬E b) w v q.2)/\zEh E w kv b
 | _,_=>False
theorem zEh.imp{E E':zD}{w w':World}(a:∀v g,zK (λb=>¬E b) w v g->zK (λb=>¬E' b) w' v g):∀{c:List (ByteArray × Value)}{b:List (ByteArray × List zB)},zEh E w c b->zEh E' w' c b
 |[],[],_=>trivial
 | _::_,_::_,⟨h1,⟨v,h2,h3⟩,h4⟩=>⟨h1,⟨v,h2,a v _ h3⟩,zEh.imp a h4⟩
 |[],_::_,h=>h.elim
 | _::_,[],h=>h.elim
theorem zEh.get{E:zD}{w:World}(x:ByteArray):∀{d:List (ByteArray × Value)}{b:List (ByteArray × List zB)},zEh E w d b->(zAA d x=none/\mapD b x=none)\/∃v g,zAA d x=some (.agg #[v])/\mapD b x=some g/\zK (λb=>¬E b) w v g
 |[],[],_=> .inl ⟨rfl,rfl⟩
 |p::d,q::b,⟨h1,⟨v,h2,h3⟩,h4⟩=>by
  unfold zAA mapD;by_cases c:x=q.1
  ·(have a:x=p.1:=by rw[h1,c]);rw[if_pos a,if_pos c];exact .inr ⟨v,q.2,by rw[h2],rfl,h3⟩
  have a:¬x=p.1:=by rw[h1];exact c
  rw[if_neg a,if_neg c];exact zEh.get x h4
 |[],_::_,h=>h.elim
 | _::_,[],h=>h.elim
theorem zEh.set{E:zD}{w:World}{x:ByteArray}{v:Value}{g:List zB}(d:zK (λb=>¬E b) w v g):∀{e:List (ByteArray × Value)}{b:List (ByteArray × List zB)},zEh E w e b->zEh E w (zAq e x (.agg #[v])) (zAp b x g)
 |[],[],_=>⟨rfl,⟨v,rfl,d⟩,trivial⟩
 |p::e,q::b,⟨h1,h2,h4⟩=>by
  unfold zAq zAp;by_cases c:x=q.1
  ·(have a:x=p.1:=by rw[h1,c]);rw[if_pos a,if_pos c];exact⟨h1,⟨v,rfl,d⟩,h4⟩
  have a:¬x=p.1:=by rw[h1];exact c
  rw[if_neg a,if_neg c];exact⟨h1,h2,zEh.set d h4⟩
 |[],_::_,h=>h.elim
 | _::_,[],h=>h.elim
theorem zI3{κ:Type}[DecidableEq κ](x:κ)(u v:List zB):∀l:List (κ × List zB),zAp (zAp l x u) x v=zAp l x v
 |[]=>by simp[zAp]
 |p::r=>by
  by_cases h:x=p.1
  ·simp only[zAp,if_pos h]
  simp only[zAp,if_neg h,zI3 x u v r]
def zE0(E:zD)(w:World)(X:Nat)(g:List zB):Prop:=∃A cap,Blk w X 74 #[.slice A g.length cap]/\zK (λb=>¬E b) w (.slice A g.length cap) g
structure CM (E Z:zD) (B0 B M Mo F C:Nat) (l:List zF) (s:zM) (w:World) (q:zHE) (cl:List zB):Prop where
 sm:zQ E Z B0 w B M l s q.st
 own:∃kv,zS encS w Mo kv/\zEh E w kv q.own
 fb:zE0 E w F q.forb
 cb:zE0 E w C cl
 em:E Mo/\E F/\E C
 ne:Mo≠F/\Mo≠C/\F≠C/\Mo≠B/\Mo≠M/\F≠B/\F≠M/\C≠B/\C≠M
section
variable {E E' Z:zD} {B0 B M Mo F C:Nat} {l:List zF} {s:zM} {w w':World} {q:zHE} {cl:List zB}
theorem zE0.keep(h:zE0 E w X g)(a:zA (λb=>¬E b\/b=X) w w'):zE0 E w' X g:=by
 obtain⟨A,cap,c,d⟩:=h;exact⟨A,cap,c.keep a (.inr rfl),d.keep (a.mono λb _ e=> .inl e)⟩
theorem zE0.more(h:zE0 E w X g)(c:Bw w w')(d:∀b,E' b->E b\/w.heap.size<=b):zE0 E' w' X g:=by
 obtain⟨A,cap,a,e⟩:=h;exact⟨A,cap,a.below c a.lt,zQ.nodes_more e c d⟩
theorem zE0.less(h:zE0 E' w X g)(a:∀b,E b->E' b):zE0 E w X g:=by
 obtain⟨A,cap,c,d⟩:=h;exact⟨A,cap,c,d.mono λb e he=>e (a b he)⟩
theorem CM.call(h:CM E Z B0 B M Mo F C l s w q cl)(o:zQ E Z B0 w' B M l s st)(d:zA (λb=>b≠B/\b≠M) w w'):CM E Z B0 B M Mo F C l s w' ⟨q.own,q.forb,st⟩ cl:=by
 obtain⟨c,⟨t,f,u⟩,k,i,j,ne⟩:=h;have m:=c.keeps d;refine⟨o,⟨t,f.of_block (d.block _ f.lt ⟨ne.2.2.2.1,ne.2.2.2.2.1⟩),u.imp λv g n=>n.keep m⟩,k.keep (d.mono λb _ a=> ?_),i.keep (d.mono λb _ a=> ?_),j,ne⟩
 ·rcases a with a|rfl
  ·exact⟨λe=>a (e▸c.eb),λe=>a (e▸c.em)⟩
  exact⟨ne.2.2.2.2.2.1,ne.2.2.2.2.2.2.1⟩
 rcases a with a|rfl
 ·exact⟨λe=>a (e▸c.eb),λe=>a (e▸c.em)⟩
 exact⟨ne.2.2.2.2.2.2.2.1,ne.2.2.2.2.2.2.2.2⟩
theorem CM.gen(h:CM E Z B0 B M Mo F C l s w q cl)(c:zA (λb=>¬E b\/b=B\/b=M\/b=Mo\/b=F\/b=C) w w'):CM E Z B0 B M Mo F C l s w' q cl:=by
 obtain⟨n,⟨k,d,m⟩,i,e,f,ne⟩:=h
 exact⟨n.gen (c.mono λb _ a=>by rcases a with a|a|a<;>simp[a]),⟨k,d.of_block (c.block _ d.lt (by simp)),m.imp λv g j=>j.keep (c.mono λb _ a=> .inl a)⟩,
  i.keep (c.mono λb _ a=>by rcases a with a|a<;>simp[a]),e.keep (c.mono λb _ a=>by rcases a with a|a<;>simp[a]),f,ne⟩
theorem CM.below(h:CM E Z B0 B M Mo F C l s w q cl)(a:Bw w w'):CM E Z B0 B M Mo F C l s w' q cl:=h.gen (.of_below a)
theorem CM.more(h:CM E Z B0 B M Mo F C l s w q cl)(a:Bw w w')(c:∀b,E b->E' b)(f:∀b,E' b->E b\/(w.heap.size<=b/\b<w'.heap.size)):CM E' Z B0 B M Mo F C l s w' q cl:=by
 obtain⟨t,⟨n,i,o⟩,k,j,d,ne⟩:=h;have e:∀b,E' b->E b\/w.heap.size<=b:=λb a=>(f b a).imp id (·.1)
 exact⟨t.more a c f,⟨n,i.of_block (a.block _ i.lt),o.imp λv g m=>zQ.nodes_more m a e⟩,k.more a e,j.more a e,⟨c _ d.1,c _ d.2.1,c _ d.2.2⟩,ne⟩
theorem CM.less(h:CM E' Z B0 B M Mo F C l s w q cl)(a:∀b,E b->E' b)(e:E B)(f:E M)(d:E Mo/\E F/\E C):CM E Z B0 B M Mo F C l s w q cl:=by
 obtain⟨u,⟨n,o,t⟩,j,c,i,ne⟩:=h;exact⟨u.less a e f,⟨n,o,t.imp λv g m=>m.mono λb k he=>k (a b he)⟩,j.less a,c.less a,d,ne⟩
theorem CM.setF(h:CM E Z B0 B M Mo F C l s w q cl)(n:zK (λb=>¬E b) w (.slice A g.length cap) g):CM E Z B0 B M Mo F C l s (w.setCell ⟨F,0,none⟩ (.slice A g.length cap)) ⟨q.own,g,q.st⟩ cl:=by
 have c:zA (λb=>b≠F) w (w.setCell ⟨F,0,none⟩ (.slice A g.length cap)):=(zA.refl _ _).setCell (λ_ h=>h rfl) _;obtain⟨x,⟨t,i,u⟩,m,j,f,ne⟩:=h;have hF:∀b,¬E b->b≠F:=λb a e=>a (e▸f.2.1)
 obtain⟨y,d,k,z⟩:=m
 exact⟨x.gen (c.mono λb _ a=>by rcases a with a|rfl|rfl;exact hF b a;exact Ne.symm ne.2.2.2.2.2.1;exact Ne.symm ne.2.2.2.2.2.2.1),⟨t,i.of_block (c.block _ i.lt ne.1),u.imp λv g o=>o.keep (c.mono λb _ a=>hF b a)⟩,
  ⟨A,cap,k.set_ 0 _,n.keep (c.mono λb _ a=>hF b a)⟩,j.keep (c.mono λb _ a=>by rcases a with a|rfl;exact hF b a;exact Ne.symm ne.2.2.1),f,ne⟩
theorem CM.setC(h:CM E Z B0 B M Mo F C l s w q cl)(n:zK (λb=>¬E b) w (.slice A g.length cap) g):CM E Z B0 B M Mo F C l s (w.setCell ⟨C,0,none⟩ (.slice A g.length cap)) q g:=by
 have c:zA (λb=>b≠C) w (w.setCell ⟨C,0,none⟩ (.slice A g.length cap)):=(zA.refl _ _).setCell (λ_ h=>h rfl) _;obtain⟨x,⟨t,i,u⟩,m,j,f,ne⟩:=h;have hF:∀b,¬E b->b≠C:=λb a e=>a (e▸f.2.2)
 obtain⟨y,d,k,z⟩:=j
 exact⟨x.gen (c.mono λb _ a=>by rcases a with a|rfl|rfl;exact hF b a;exact Ne.symm ne.2.2.2.2.2.2.2.1;exact Ne.symm ne.2.2.2.2.2.2.2.2),⟨t,i.of_block (c.block _ i.lt ne.2.1),u.imp λv g o=>o.keep (c.mono λb _ a=>hF b a)⟩,
  m.keep (c.mono λb _ a=>by rcases a with a|rfl;exact hF b a;exact ne.2.2.1),⟨A,cap,k.set_ 0 _,n.keep (c.mono λb _ a=>hF b a)⟩,f,ne⟩
theorem CM.setO(h:CM E Z B0 B M Mo F C l s w q cl){j:List (ByteArray × Value)}(d:zEh E w j q.own){x:ByteArray}(n:zK (λb=>¬E b) w v g)(o:zS encS w' Mo (zAq j x (.agg #[v])))(c:zA (λb=>b≠Mo) w w'):CM E Z B0 B M Mo F C l s w' ⟨zAp q.own x g,q.forb,q.st⟩ cl:=by
 obtain⟨u,_,m,k,f,ne⟩:=h;have hF:∀b,¬E b->b≠Mo:=λb a e=>a (e▸f.1)
 have i:∀v g,zK (λb=>¬E b) w v g->zK (λb=>¬E b) w' v g:=λv g t=>t.keep (c.mono λb _ a=>hF b a)
 exact⟨u.gen (c.mono λb _ a=>by rcases a with a|rfl|rfl;exact hF b a;exact Ne.symm ne.2.2.2.1;exact Ne.symm ne.2.2.2.2.1),⟨_,o,zEh.set (i _ _ n) (d.imp i)⟩,
  m.keep (c.mono λb _ a=>by rcases a with a|rfl;exact hF b a;exact Ne.symm ne.1),k.keep (c.mono λb _ a=>by rcases a with a|rfl;exact hF b a;exact Ne.symm ne.2.1),f,ne⟩
theorem CM.nodes(h:CM E Z B0 B M Mo F C l s w q cl)(c:zK (λb=>¬E b) w v g)(a:zA (λb=>b≠B/\b≠M) w w'):zK (λb=>¬E b) w' v g:=c.keep (h.sm.keeps a)
end
theorem zJQ{x:Value}(c:(isAgg t).run P w= .ok true w)(d:(sizeOf t).run P w= .ok 1 w)(a:w.cell? ⟨b,0,none⟩=some x):(loadVar t ⟨b,0,none⟩).run P w= .ok (.agg #[x]) w:=by
 simp[loadVar,Sem.run_bind,c,d,loadCells,loadCellsFrom,load,Sem.run,a,Addr.add,Result.andThen]
theorem Tryz.aDia(w:World):(isAgg 74).run prog w= .ok true w:=by kernel_rfl
theorem Tryz.sDia(w:World):(sizeOf 74).run prog w= .ok 1 w:=by kernel_rfl
end Go.Proofs.YtommaegelgilnaaGreatDoor
