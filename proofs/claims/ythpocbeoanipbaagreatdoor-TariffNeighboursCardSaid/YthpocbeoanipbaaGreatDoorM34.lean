/- Texts W75 TG TG2 TG3. -/
import Derived.Test.YthpocbeoanipbaaGreatDoorM32
import Derived.Test.YthpocbeoanipbaaGreatDoorM30
set_option linter.all false
namespace Go.Proofs.YthpocbeoanipbaaGreatDoor
open Go.RowKit Go.Proofs.Tryz
set_option maxHeartbeats 8000000
set_option maxRecDepth 100000
variable{B K:Nat}{g:List zB}{o:zAI}{ob:Obj}{v va vb:Value}{w:World}
def AV.of(n A B D:Nat):AV:=⟨n+1+1+1,A,B,D,n+1,n+1+1+1+1,n,n+1+1⟩
def bDv(n:Nat):Obj:= .cells #[.map (some (n+1+1))] 183
def bAv(n A B D:Nat):Obj:= .cells #[(AV.of n A B D).fn] 184
def zL3(w:World)(A B D:Nat):World:=((((w.alloc bMk).alloc (bMv w.heap.size)).alloc (.map #[] 0)).alloc (bDv w.heap.size)).alloc (bAv w.heap.size A B D)
theorem zTT(w:World)(A B D:Nat):(zL3 w A B D).heap.size =w.heap.size+5:=by unfold zL3;simp
theorem zMV(w:World)(A B D:Nat):Bw w (zL3 w A B D):=
 ((((zF w _).alloc (by simp) _).alloc (by simp;omega) _).alloc (by simp;omega) _).alloc (by simp;omega) _
theorem zVM{A B D:Nat}{va vb vd:Value}(i:One w A va)(a:One w B vb)(j:One w D vd):AnW (AV.of w.heap.size A B D) va vb vd (zL3 w A B D) ⟨[],[]⟩ (λb=>b=w.heap.size) (λ_=>False):=by
 have c:=i.lt;have d:=a.lt;have f:=j.lt;have g:=zMV w A B D
 refine⟨⟨_,(Blk.new' (((w.alloc bMk).alloc (bMv w.heap.size)).alloc (.map #[] 0)) 183 #[.map (some (w.heap.size+1+1))] (n:=w.heap.size+1+1+1) (by simp)).alloc _⟩,i.below g c,a.below g d,j.below g f,
  ⟨_,(((Blk.new' (w.alloc bMk) 170 #[.pointer (some ⟨w.heap.size,0,none⟩)] (n:=w.heap.size+1) (by simp)).alloc _).alloc _).alloc _⟩,
  ⟨_,Blk.new' ((((w.alloc bMk).alloc (bMv w.heap.size)).alloc (.map #[] 0)).alloc (bDv w.heap.size)) _ #[(AV.of w.heap.size A B D).fn] (n:=w.heap.size+1+1+1+1) (by simp)⟩,?_,?_,?_,?_,?_⟩
 ·exact(MkS.new w).below (w':=zL3 w A B D) ((((zF (w.alloc bMk) _).alloc (by simp) _).alloc (by simp) _).alloc (by simp) _)
 ·have k:=((zW.made ((w.alloc bMk).alloc (bMv w.heap.size)) zE0).alloc (bDv w.heap.size)).alloc (bAv w.heap.size A B D);have e:((w.alloc bMk).alloc (bMv w.heap.size)).heap.size =w.heap.size+1+1:=by simp
  rw[e]at k;exact k
 ·intro b a;refine⟨λe=> ?_,?_⟩
  ·subst e;rcases a with a|a|a|a|a|a<;>(unfold AV.of at a;simp only at a;omega)
  ·show b≠w.heap.size+1+1;rcases a with a|a|a|a|a|a<;>(unfold AV.of at a;simp only at a;omega)
 ·show ¬(w.heap.size+1+1=w.heap.size);omega
 ·exact λh=>h
theorem zVN(Z:zE)(va vb vd:Value)(a b:List zB)(ds:List zC)(w:World)(ha:z8 Z w va a)(j:z8 Z w vb b)(hd:Facts Z w vd ds)(hz:∀b,Z b->b<w.heap.size)(A:zAD w.heap.size w):
  Calls prog 72 #[.agg #[va],.agg #[vb],.agg #[vd]] w (zLR (λ_=>False) (zDp ds a b) w):=by
 by_cases hv:zB3 ds a=true/\zB3 ds b=true
 ·obtain⟨L,M⟩:=hv;have HU:=hid (show zDp ds a b=(if 4000<(zAZ ds a b (ds.length+1) 0 0 ⟨[],[]⟩).2.all.length then([],2)else zCu ds (zAZ ds a b (ds.length+1) 0 0 ⟨[],[]⟩).2.all (zAZ ds a b (ds.length+1) 0 0 ⟨[],[]⟩).1) from by unfold zDp zCu;rw[if_pos ⟨L,M⟩]);have k:=zCH.1 L;have o:=zCH.1 M;have P:=hid (λh=>zHo (zFE k.dom) k.good o.good (zIj k.good o.good) (ds.length+1) 0 0 ⟨[],[]⟩ (zFR.2 ⟨k.rng,o.rng⟩) (zHG k o) zHU.new (Or.inr h));have Q:=hid (zPA k.good o.good (ds.length+1) 0 0 ⟨[],[]⟩ k.rng o.rng (zHG k o) zG0.new);have K:=hid k;have T:=hid o;have ao:=hid L;have ap:=hid M;have HZ:=hid hz;have ae:=hid A;clear L M k o;obtain⟨AA,t,rfl,-,-,-⟩:=ha.open_;obtain⟨AB,u,rfl,-,-,-⟩:=j.open_;obtain⟨D,dcap,rfl,-,-,-⟩:=hd.open_;have c:=hid (Dw.start ha j hd hz A);have eg:=Tryz.egAnd1;have a3:= @run_makeMap prog;clear ha j hd hz A;go_enter func72,ntmps72
  have J:=hid (Blk.new' (((w.alloc (.cells #[.slice AA a.length t] 83)).alloc (.cells #[.slice AB b.length u] 83)).alloc (.cells #[.slice D ds.length dcap] 24)) 83 #[.slice none 0 0] (n:=w.heap.size+1+1+1) (by simp));replace c:=hid (c.out.on ((zF _ (.cells #[.slice none 0 0] 83)).mono (Nat.le_refl _)));go_upto_region 1 with fail
  generalize (((w.alloc (.cells #[.slice AA a.length t] 83)).alloc (.cells #[.slice AB b.length u] 83)).alloc (.cells #[.slice D ds.length dcap] 24)).alloc (.cells #[.slice none 0 0] 83)=w1 at*;have a0:=c.out.ab.at0;have al:w.heap.size<w1.heap.size:=c.out.ab.lt;have b0:=c.out.bb.at0;have bl:w.heap.size+1<w1.heap.size:=c.out.bb.lt;have d0:=c.out.db.at0;have dl:w.heap.size+1+1<w1.heap.size:=c.out.db.lt;have R:=hid (zEJ Z (.slice AA a.length t) (.slice D ds.length dcap) a ds _ c.out.na c.out.fs c.out.tab);rw[ao.out]at R;go_wp2_with fail
  refine R.out.mono ?_;rintro e w2 ⟨rfl,j⟩;replace c:=hid (c.out.on j);replace J:=hid (J.out.below j J.out.lt);clear j R a0 al b0 bl d0 dl;have a0:=c.out.ab.at0;have al:w.heap.size<w2.heap.size:=c.out.ab.lt;have b0:=c.out.bb.at0;have bl:w.heap.size+1<w2.heap.size:=c.out.bb.lt;have d0:=c.out.db.at0;have dl:w.heap.size+1+1<w2.heap.size:=c.out.db.lt;have R:=hid (zEJ Z (.slice AB b.length u) (.slice D ds.length dcap) b ds _ c.out.nb c.out.fs c.out.tab);rw[ap.out]at R;go_wp2_with fail
  refine R.out.mono ?_;rintro e q ⟨rfl,j⟩;replace c:=hid (c.out.on j);replace J:=hid (J.out.below j J.out.lt);clear j R a0 al b0 bl d0 dl;go_wp2_with fail
  change Calls prog _ _ (zL3 q w.heap.size (w.heap.size+1) (w.heap.size+1+1)) _;have az:=zTT q w.heap.size (w.heap.size+1) (w.heap.size+1+1);have B:=zMV q w.heap.size (w.heap.size+1) (w.heap.size+1+1);have ag:=zVM (w:=q) ⟨_,c.out.ab⟩ ⟨_,c.out.bb⟩ ⟨_,c.out.db⟩;generalize zL3 q w.heap.size (w.heap.size+1) (w.heap.size+1+1)=W9 at*;have U:=c.out.below;have ai:=U.size;have a4:=J.out.lt;have y:Bw w W9:=U.trans (B.mono ai);have ad:=hid (J.out.below B J.out.lt)
  have aa:=hid (show zEn (AV.of q.heap.size w.heap.size (w.heap.size+1) (w.heap.size+1+1)) (.slice AA a.length t) (.slice AB b.length u) (.slice D ds.length dcap) a b ds Z w.heap.size W9 ⟨[],[]⟩ (λb=>b=q.heap.size) (λ_=>False) from by
   refine⟨ag,c.out.na.keep (.of_below B),c.out.nb.keep (.of_below B),c.out.fs.keep (.of_below B),λx hx=>⟨⟨λe=> ?_,λe=> ?_⟩,?_⟩,ae.out.on y,⟨y.size,λx hx=>by subst hx;exact ai,?_⟩,zG0.new,by simp[inn],K.out,T.out⟩
   ·have:=HZ.out x hx;omega
   ·have:=HZ.out x hx;have e:x=q.heap.size+1+1:=e;omega
   ·have:=HZ.out x hx;omega
   ·show w.heap.size<=q.heap.size+1+1;omega)
  have C:=hid (zUZ (ds.length+1) 0 0 W9 ⟨[],[]⟩ (λb=>b=q.heap.size) (λ_=>False) K.out.rng T.out.rng (zHG K.out T.out) aa.out);have Y:=hid y;clear ag B y U c J;refine C.out.mono ?_;clear C;intro e s aj;obtain⟨rfl,⟨F',Z',z,ar,af⟩,d⟩:=aj;have g:Blk s (w.heap.size+1+1+1) 83 #[.slice none 0 0]:=ad.out.keep d ⟨λe=>by have e:w.heap.size+1+1+1=q.heap.size:=e;omega,λe=>by have e:w.heap.size+1+1+1=q.heap.size+1+1:=e;omega⟩;have G:Bw w s:=Y.out.trans ⟨d.os,d.tape,d.output,d.size,λb j=>d.block b (by have:=Y.out.size;omega) ⟨λe=>by have e:b=q.heap.size:=e;omega,λe=>by have e:b=q.heap.size+1+1:=e;omega⟩⟩;have m0:s.cell? ⟨q.heap.size+1,0,none⟩=some (.pointer (some ⟨q.heap.size,0,none⟩)):=z.mv.cell;have aw:q.heap.size+1<s.heap.size:=z.mv.lt;have V:MkS s q.heap.size (zAZ ds a b (ds.length+1) 0 0 ⟨[],[]⟩).2.all F' Z':=z.mkr;obtain⟨AL,aq,l0,av⟩:=V.all_cell
  have ay:(zAZ ds a b (ds.length+1) 0 0 ⟨[],[]⟩).2.all.length <=5000:=by
   have h1:=Q.out.1.tab.len;have h2:=Q.out.2.2;have h4:=zBT K.out.dom;have h5:inn []=0:=rfl;simp only[h5]at h2;omega
  have a2:=d.size;have ac:=hid (And.intro V (λb j=>(by rcases af b j with h|h;exact h.elim;omega:w.heap.size+1+1+1<b)));have f:=hid (And.intro g G);have r0:=g.at0;have rf:s.frozen? ⟨w.heap.size+1+1+1,0,none⟩=false:=g.frozen 0;have rl:w.heap.size+1+1+1<s.heap.size:=g.lt;clear z ar af d g G V ad aa Q;generalize zAZ ds a b (ds.length+1) 0 0 ⟨[],[]⟩=r at*;by_cases m:4000<r.2.all.length
  ·have HQ:=hid (HU.out.trans (if_pos m));(have e1:decide ((4000:Int)<(r.2.all.length:Int))=true:=by simp;omega);(have e2:decide (4000<r.2.all.length)=true:=by simp;omega);clear m HU P;go_wp2;have r1:=(f.out.1.set_ 0 (.slice none 0 0)).cell 0;refine bodyPost_ret (v:= .tuple #[.agg #[.slice none 0 0],.int .i64 2]) (by simp[results,results72,go_sem,r1]) rfl ?_;rw[HQ.out];exact⟨_,rfl,zFB _ _,f.out.2.setCell (p:=⟨w.heap.size+1+1+1,0,none⟩) (by show w.heap.size<=w.heap.size+1+1+1;omega) _⟩
  ·have HQ:=hid (HU.out.trans (if_neg m));(have e1:decide ((4000:Int)<(r.2.all.length:Int))=false:=by simp;omega);(have e2:decide (4000<r.2.all.length)=false:=by simp;omega);obtain⟨ah,N⟩:=P.out (by omega);have ak:=hid (zLS ds r.2.all ah.good (by omega) q.heap.size F' Z' r.1 s N.rng ac.out.1);clear m HU P ah N;(go_wp2_with fail);refine ak.out.mono ?_;rintro e W ⟨ax,rfl,O,F⟩;have i:=f.out.1.below F f.out.1.lt;have H:=f.out.2.trans (F.mono f.out.2.size);clear r0 rf rl m0 aw l0 av;have r0:=i.at0;have rf:W.frozen? ⟨w.heap.size+1+1+1,0,none⟩=false:=i.frozen 0;have rl:w.heap.size+1+1+1<W.heap.size:=i.lt
   have I:z8 (λb=>w.heap.size<=b/\b≠w.heap.size+1+1+1) W ax (zCu ds r.2.all r.1).1:=O.mono λb j=>by
    have a1:=f.out.1.lt;rcases j with j|j
    ·have:=ac.out.2 b j;omega
    ·omega
   obtain⟨X,E,rfl,-⟩:=O;have HN:=hid (And.intro I (And.intro i H));clear I i H F;go_wp2;have r1:=(HN.out.2.1.set_ 0 (.slice X (zCu ds r.2.all r.1).1.length E)).cell 0;refine bodyPost_ret (v:= .tuple #[.agg #[.slice X (zCu ds r.2.all r.1).1.length E],.int .i64 (zCu ds r.2.all r.1).2]) (by simp[results,results72,go_sem,r1]) rfl ?_;rw[HQ.out];exact⟨_,rfl,(HN.out.1.keep ((zA.refl _ _).setCell (λ_ h=>h.2 rfl) _)).mono (λb j=>Or.inr j.1),HN.out.2.2.setCell (p:=⟨w.heap.size+1+1+1,0,none⟩) (by show w.heap.size<=w.heap.size+1+1+1;omega) _⟩
 ·have hr:zB3 ds a=false\/zB3 ds b=false:=by cases h1:zB3 ds a<;>cases h2:zB3 ds b<;>simp_all
  have e:zDp ds a b=([],1):=by unfold zDp;rw[if_neg hv]
  rw[e];refine(zQD Z va vb vd a b ds w ha j hd hz A hr).mono ?_;rintro e w' ⟨rfl,au⟩;exact⟨_,rfl,zFB _ _,au⟩
def zGs(R:Nat)(vd vo vm vp:Value)(r:List zB × Int)(w:World)(e:Ending)(w':World):Prop:=
 ∃A cap,e= .returned (.agg #[.slice A r.1.length cap])/\z8 (λb=>w.heap.size<=b) w' (.slice A r.1.length cap) r.1/\Blk w' R 78 #[vd,.int .i64 r.2,vo,vm,vp]/\zA (λc=>c≠R) w w'
theorem zA.ne2{Z:zE}{w w' a:World}(h:zA Z w w')(k:zA (λb=>b≠B) w' a)(d:w.heap.size<=B):zA Z w a:=
 ⟨k.os.trans h.os,k.tape.trans h.tape,k.output.trans h.output,Nat.le_trans h.size k.size,λi c e=>(k.block i (Nat.lt_of_lt_of_le c h.size) (Nat.ne_of_lt (Nat.lt_of_lt_of_le c d))).trans (h.block i c e)⟩
theorem zJz(Z:zE)(w:World):z8 Z w (.slice none 0 0) []:=⟨none,0,rfl,by simp,by decide,by simp,trivial⟩
theorem zU0(R:Nat)(Z:zE)(D:Option Addr)(z:Nat)(vo vm vp va vb:Value)(s:Int)(a b:List zB)(ds:List zC)(w:World)
  (hR:Blk w R 78 #[.slice D ds.length z,.int .i64 s,vo,vm,vp])(ha:z8 Z w va a)(j:z8 Z w vb b)(hd:Facts Z w (.slice D ds.length z) ds)(hz:∀b,Z b->b<w.heap.size)(L:zAD w.heap.size w):
  Calls prog 42 #[.pointer (some ⟨R,0,none⟩),.agg #[va],.agg #[vb]] w (zGs R (.slice D ds.length z) vo vm vp (zAx ds s a b) w):=by
 obtain⟨T,n,rfl,-,-,-⟩:=ha.open_;obtain⟨U,o,rfl,-,-,-⟩:=j.open_;have rl:=hR.lt;have P:Bw w (((w.alloc (.cells #[.slice T a.length n] 83)).alloc (.cells #[.slice U b.length o] 83)).alloc (.cells #[.slice none 0 0] 83)):=((zF w _).alloc (by simp) _).alloc (by simp;omega) _;have ag:=((Blk.new w 83 #[.slice T a.length n]).alloc (.cells #[.slice U b.length o] 83)).alloc (.cells #[.slice none 0 0] 83);have x:=(zBv w (.cells #[.slice T a.length n] 83) 83 #[.slice U b.length o]).alloc (.cells #[.slice none 0 0] 83);have ah:Blk (((w.alloc (.cells #[.slice T a.length n] 83)).alloc (.cells #[.slice U b.length o] 83)).alloc (.cells #[.slice none 0 0] 83)) (w.heap.size+1+1) 83 #[.slice none 0 0]:=Blk.new' _ _ _ (by simp);have d:=hid (And.intro P (And.intro ag (And.intro x (And.intro ah (hR.below P rl)))));have HA:=hid (λ(X W:World)(I:Bw w X)(A:zA (λ_=>True) X W)=>zVN Z _ _ _ a b ds W (ha.keep (.of_below (I.trans (A.below.mono I.size)))) (j.keep (.of_below (I.trans (A.below.mono I.size)))) (hd.keep (.of_below (I.trans (A.below.mono I.size)))) (λb h=>Nat.lt_of_lt_of_le (hz b h) (Nat.le_trans I.size A.size)) ((L.on (I.trans (A.below.mono I.size))).mono (Nat.le_trans I.size A.size)));clear P ag x ah ha j hd hz L hR;go_enter func42,ntmps42
 go_upto_region 1 with fail
 generalize (((w.alloc (.cells #[.slice T a.length n] 83)).alloc (.cells #[.slice U b.length o] 83)).alloc (.cells #[.slice none 0 0] 83))=m at*;replace HA:=hid (λ(W:World)(A:zA (λ_=>True) m W)=>HA.out m W d.out.1 A);have r1:=d.out.2.2.2.2.at1;have au:=d.out.2.2.2.2.lt;by_cases he:s=0
 ·have HE:=hid (show zAx ds s a b=zDp ds a b from by unfold zAx;rw[if_neg (by simpa using he)]);have ap:(s !=(0:Int))=false:=by simp[he]
  clear he;go_upto_region 3 with fail
  generalize hG:zDp ds a b=G at*;have HG:=hid hG;clear hG
  have HC:=hid (λ(W:World)(A:zA (λ_=>True) m W)=>(show W.cell? ⟨w.heap.size,0,none⟩=some (.slice T a.length n)/\W.cell? ⟨w.heap.size+1,0,none⟩=some (.slice U b.length o)/\W.cell? ⟨R,0,none⟩=some (.slice D ds.length z)/\w.heap.size<W.heap.size/\w.heap.size+1<W.heap.size/\R<W.heap.size from by
   have h1:=d.out.2.1.keep A trivial;have h2:=d.out.2.2.1.keep A trivial;have h3:=d.out.2.2.2.2.keep A trivial
   exact⟨h1.at0,h2.at0,h3.at0,h1.lt,h2.lt,h3.lt⟩))
  clear r1 au;go_cut[7,8] from 15 to 25 (λvp aw wx=>∃V C f,vp= .pointer (some ⟨V,0,none⟩)/\aw= .int .i64 G.2/\Blk wx V 83 #[.slice C G.1.length f]/\m.heap.size<=V/\zA (λ_=>True) m wx/\z8 (λb=>m.heap.size<=b/\b≠V) wx (.slice C G.1.length f) G.1)
  case first=>
   refine zL 11 (λW=>zA (λ_=>True) m W) (by kernel_rfl) ?_;have t:zA (λ_=>True) m m.drew:=(zA.refl _ _).drew;have u:(λW=>zA (λ_=>True) m W) m.drew:=t;generalize m.drew=B at*
   (refine tkS 0 ?_ u ?_ ?_;rotate_left;intro w y;obtain⟨a0,b0,d0,l0,l1,l2⟩:=HC.out _ y;clear y;go_simp;(try with_reducible rfl);simp only[nr])
   (refine tkS 1 ?_ u ?_ ?_;rotate_left;intro w y;obtain⟨a0,b0,d0,l0,l1,l2⟩:=HC.out _ y;clear y;go_simp;(try with_reducible rfl);simp only[nr])
   (refine tkQ 2 u ?_;simp only[nr])
   (refine tkQ 3 u ?_;simp only[nr])
   (refine tkQ 4 u ?_;simp only[nr])
   (refine tkS 5 ?_ u ?_ ?_;rotate_left;intro w y;obtain⟨a0,b0,d0,l0,l1,l2⟩:=HC.out _ y;clear y;go_simp;(try with_reducible rfl);simp only[nr])
   clear u;refine wS2 6 10 (λK g=> ?_) (λK g=> ?_)
   ·(go_wp2_with fail);refine(HA.out _ t).mono ?_;rintro e q ⟨v,rfl,hn,x⟩;have j:=zA.of_below (Z:=λ_=>True) x;clear x;obtain⟨C,f,rfl,-,-,-⟩:=hn.open_;have k:zA (λ_=>True) m q:=t.trans (j.mono λ_ _ h=>h);have ao:=hn.live.mono (Z':=λb=>B.heap.size<=b/\b<q.heap.size) (λb h=>⟨h.1.resolve_left id,h.2⟩);refine g _ _ (Or.inr k) ?_;clear g K j
    (try simp only[nr])
    have u:(λW=>zA (λ_=>True) m W) q:=k
    (refine tkQ 7 u ?_;simp only[nr])
    (refine tkQ 8 u ?_;simp only[nr])
    (refine tkQ 9 u ?_;simp only[nr])
    clear u;refine wS1 10 (λK g=> ?_);(go_wp2_with fail);refine g _ _ (Or.inr (k.alloc _)) ?_;clear g K
    (try simp only[nr])
    have F:zA (λ_=>True) m (q.alloc (.cells #[.slice none 0 0] 83)):=k.alloc _;have i:=Blk.new q 83 #[.slice none 0 0];have O:=ao.keep ((zA.refl _ q).alloc (.cells #[.slice none 0 0] 83));generalize q.alloc (.cells #[.slice none 0 0] 83)=Y at*;refine wS1 11 (λK g=> ?_);have c0:=i.at0;have g0:=i.frozen 0;have cl:=i.lt;have N:=hid i;clear i;(go_wp2_with fail);refine g _ _ (Or.inl rfl) ?_;clear g K
    (try simp only[nr])
    refine wS1 12 (λK g=> ?_);(go_wp2_with fail);refine g _ _ (Or.inl rfl) ?_;clear g K
    (try simp only[nr])
    refine wSd ?_ _;(go_wp2_with fail);go_meet;exact⟨q.heap.size,C,f,rfl,rfl,(N.out.set_ 0 _),k.size,(F.setCell (λ(h:q.heap.size<m.heap.size)=>absurd k.size (Nat.not_le_of_lt h)) _),(O.keep ((zA.refl _ _).setCell (λ_(h:B.heap.size<=q.heap.size/\q.heap.size<q.heap.size)=>absurd h (by omega)) _)).mono (λb(h:B.heap.size<=b/\b<q.heap.size)=>⟨Nat.le_trans t.size h.1,by omega⟩)⟩
   ·(go_wp2_with fail);refine g _ _ (Or.inr (t.alloc _)) ?_;clear g K
    (try simp only[nr])
    have k:zA (λ_=>True) m (B.alloc (.cells #[.slice none 0 0] 83)):=t.alloc _;have af:=Blk.new B 83 #[.slice none 0 0];generalize B.alloc (.cells #[.slice none 0 0] 83)=q at*;refine wS1 6 (λK g=> ?_);(go_wp2_with fail);refine(HA.out _ k).mono ?_;rintro e Y ⟨v,rfl,hn,x⟩;have j:=zA.of_below (Z:=λ_=>True) x;clear x;obtain⟨C,f,rfl,-,-,-⟩:=hn.open_;have F:zA (λ_=>True) m Y:=k.trans (j.mono λ_ _ h=>h);have O:=hn.live.mono (Z':=λb=>q.heap.size<=b/\b<Y.heap.size) (λb h=>⟨h.1.resolve_left id,h.2⟩);have i:=af.keep j trivial;refine g _ _ (Or.inr F) ?_;clear g K j
    (try simp only[nr])
    have u:(λW=>zA (λ_=>True) m W) Y:=F
    (refine tkQ 7 u ?_;simp only[nr])
    (refine tkQ 8 u ?_;simp only[nr])
    (refine tkQ 9 u ?_;simp only[nr])
    clear u;have ae:=hid (show B.heap.size<q.heap.size from af.lt);refine wS1 11 (λK g=> ?_);have c0:=i.at0;have g0:=i.frozen 0;have cl:=i.lt;have N:=hid i;clear i;(go_wp2_with fail);refine g _ _ (Or.inl rfl) ?_;clear g K
    (try simp only[nr])
    refine wS1 12 (λK g=> ?_);(go_wp2_with fail);refine g _ _ (Or.inl rfl) ?_;clear g K
    (try simp only[nr])
    refine wSd ?_ _;(go_wp2_with fail);go_meet;exact⟨B.heap.size,C,f,rfl,rfl,(N.out.set_ 0 _),t.size,(F.setCell (λ(h:B.heap.size<m.heap.size)=>absurd t.size (Nat.not_le_of_lt h)) _),(O.keep ((zA.refl _ _).setCell (λ_(h:q.heap.size<=B.heap.size/\B.heap.size<Y.heap.size)=>absurd h (by have:=ae.out;omega)) _)).mono (λb(h:q.heap.size<=b/\b<Y.heap.size)=>⟨Nat.le_trans k.size h.1,by have:=ae.out;omega⟩)⟩
  case rest=>
   obtain⟨V,C,f,rfl,rfl,hx,ai,j,hN⟩:=hcut;(rename World=>w4);have ac:=hid hx;have M:=hid (d.out.2.2.2.1.keep j trivial);have E:=hid (d.out.2.2.2.2.keep j trivial);have aa:=hid ((zA.of_below d.out.1:zA (λc=>c≠R) w m).trans (j.mono λ_ _ _=>trivial));have ab:=hid hN;have a2:=d.out.1.size;have az:=j.size;have ay:=ai;have a1:=M.out.lt;have ax:=d.out.2.2.2.1.lt;clear hx j hN ai HC HA d;have r1:=E.out.at1;have ar:=E.out.frozen 1;have av:=E.out.lt;(go_upto_region 5 with fail);have H:zA (λc=>c≠R) w4 (w4.setCell ⟨R,1,none⟩ (.int .i64 G.2)):=(zA.refl _ _).setCell (p:=⟨R,1,none⟩) (λ_ h=>h rfl) _;have al:=hid (E.out.set_ 1 (.int .i64 G.2));have ad:=hid (ac.out.keep H (by show V≠R;omega));have J:=hid (M.out.keep H (by show w.heap.size+1+1≠R;omega));have aj:=hid (aa.out.trans H);have ak:=hid (ab.out.keep (H.mono λb _ j=>by have:=j.1;show b≠R;omega));clear H E ac M aa ab r1 ar av;generalize w4.setCell ⟨R,1,none⟩ (.int .i64 G.2)=w5 at*;have B:=ad.out.at0;have xl:=ad.out.lt;have o0:=J.out.at0;have aq:=J.out.frozen 0;have ol:=J.out.lt;(go_wp2_with fail);have Q:zA (λb=>b≠w.heap.size+1+1) w5 (w5.setCell ⟨w.heap.size+1+1,0,none⟩ (.slice C G.1.length f)):=(zA.refl _ _).setCell (λ_ h=>h rfl) _;have hB:=J.out.set_ 0 (.slice C G.1.length f);have q0:=hB.at0;refine bodyPost_ret (v:= .agg #[.slice C G.1.length f]) (by simp[results,results42,go_sem,q0]) rfl ?_;unfold zGs;rw[HE.out];exact⟨C,f,rfl,(ak.out.keep (Q.mono λb _ j=>by have:=j.1;show b≠w.heap.size+1+1;omega)).mono λb j=>by have:=j.1;show w.heap.size<=b;omega,Blk.keep al.out Q (by show R≠w.heap.size+1+1;omega),aj.out.ne2 Q (by omega)⟩
 ·have HE:=hid (show zAx ds s a b=([],s) from by unfold zAx;rw[if_pos he]);have ap:(s !=(0:Int))=true:=by simp[he]
  clear he;have o0:=d.out.2.2.2.1.at0;have aq:=d.out.2.2.2.1.frozen 0;have ol:=d.out.2.2.2.1.lt;go_wp2_with fail
  have hB:=d.out.2.2.2.1.set_ 0 (.slice none 0 0);have q0:=hB.at0;refine bodyPost_ret (v:= .agg #[.slice none 0 0]) (by simp[results,results42,go_sem,q0]) rfl ?_;unfold zGs;rw[HE.out];exact⟨none,0,rfl,zJz _ _,d.out.2.2.2.2.far (p:=⟨w.heap.size+1+1,0,none⟩) (by show R≠w.heap.size+1+1;omega) _,(zA.of_below d.out.1).setCell (p:=⟨w.heap.size+1+1,0,none⟩) (λ(h:w.heap.size+1+1<w.heap.size)=>absurd h (by omega)) _⟩
theorem zMW(R:Nat)(Zf Z:zE)(D:Option Addr)(u:Nat)(vo vm vp:Value)(o:Int)(f:Fm)(cs:List Value)(ds:List zC)(w:World)
  (hR:Blk w R 78 #[.slice D ds.length u,.int .i64 o,vo,vm,vp])(hf:FmR Zf w f cs)(aj:∀b,Zf b->b<w.heap.size)(hd:Facts Z w (.slice D ds.length u) ds)(hz:∀b,Z b->b<w.heap.size)(ar:zG f<=1000000)(J:zAD w.heap.size w):
  Calls prog 41 #[.pointer (some ⟨R,0,none⟩),.agg cs.toArray] w (zGs R (.slice D ds.length u) vo vm vp (zA6 ds o f) w):=by
 obtain⟨V,q,rfl⟩:=FmR.form hf;have rl:=hR.lt;have O:Bw w ((w.alloc (.cells #[.int .i64 f.op,.string f.name,.int .i64 f.cmp,.int .i64 f.num,.slice V f.kids.length q] 40)).alloc (.cells #[.slice none 0 0] 83)):=(zF w _).alloc (by simp) _;have ag:=(Blk.new w 40 #[.int .i64 f.op,.string f.name,.int .i64 f.cmp,.int .i64 f.num,.slice V f.kids.length q]).alloc (.cells #[.slice none 0 0] 83);have ah:=zBv w (.cells #[.int .i64 f.op,.string f.name,.int .i64 f.cmp,.int .i64 f.num,.slice V f.kids.length q] 40) 83 #[.slice none 0 0];have a:=hid (And.intro O (And.intro ag (And.intro ah (hR.below O rl))));have Y:=hid (λ(X W:World)(I:Bw w X)(B:zA (λ_=>True) X W)=>zTP Zf Z _ f _ ds W (FmR.keep (.of_below (I.trans (B.below.mono I.size))) _ _ hf) (λb h=>Nat.lt_of_lt_of_le (aj b h) (Nat.le_trans I.size B.size)) (hd.keep (.of_below (I.trans (B.below.mono I.size)))) (λb h=>Nat.lt_of_lt_of_le (hz b h) (Nat.le_trans I.size B.size)) (Nat.le_trans ar (by decide)) ((J.on (I.trans (B.below.mono I.size))).mono (Nat.le_trans I.size B.size)));clear O ag ah hf hd hz aj J hR;go_enter func41,ntmps41
 go_upto_region 1 with fail
 generalize (w.alloc (.cells #[.int .i64 f.op,.string f.name,.int .i64 f.cmp,.int .i64 f.num,.slice V f.kids.length q] 40)).alloc (.cells #[.slice none 0 0] 83)=k at*;replace Y:=hid (λ(W:World)(B:zA (λ_=>True) k W)=>Y.out k W a.out.1 B);have r1:=a.out.2.2.2.at1;have aw:=a.out.2.2.2.lt;by_cases he:o=0
 ·have HE:=hid (show zA6 ds o f=zC1 ds f from by unfold zA6;rw[if_neg (by simpa using he)]);have aq:(o !=(0:Int))=false:=by simp[he]
  clear he;go_upto_region 3 with fail
  generalize hG:zC1 ds f=G at*;have HG:=hid hG;clear hG
  have HC:=hid (λ(W:World)(B:zA (λ_=>True) k W)=>(show W.cell? ⟨w.heap.size,0,none⟩=some (.int .i64 f.op)/\W.cell? ⟨w.heap.size,1,none⟩=some (.string f.name)/\W.cell? ⟨w.heap.size,2,none⟩=some (.int .i64 f.cmp)/\W.cell? ⟨w.heap.size,3,none⟩=some (.int .i64 f.num)/\W.cell? ⟨w.heap.size,4,none⟩=some (.slice V f.kids.length q)/\W.cell? ⟨R,0,none⟩=some (.slice D ds.length u)/\w.heap.size<W.heap.size/\R<W.heap.size from by
   have T:=a.out.2.1.keep B trivial;have h3:=a.out.2.2.2.keep B trivial
   exact⟨T.at0,T.at1,T.at2,T.at3,T.at4,h3.at0,T.lt,h3.lt⟩))
  clear r1 aw;go_cut[5,6] from 13 to 22 (λvp ay wx=>∃Q y d,vp= .pointer (some ⟨Q,0,none⟩)/\ay= .int .i64 G.2/\Blk wx Q 83 #[.slice y G.1.length d]/\k.heap.size<=Q/\zA (λ_=>True) k wx/\z8 (λb=>k.heap.size<=b/\b≠Q) wx (.slice y G.1.length d) G.1)
  case first=>
   refine zL 10 (λW=>zA (λ_=>True) k W) (by kernel_rfl) ?_;have s:zA (λ_=>True) k k.drew:=(zA.refl _ _).drew;have t:(λW=>zA (λ_=>True) k W) k.drew:=s;generalize k.drew=x at*
   (refine tkS 0 ?_ t ?_ ?_;rotate_left;intro w F;obtain⟨f0,f1,f2,f3,f4,d0,l0,l1⟩:=HC.out _ F;clear F;go_simp;(try with_reducible rfl);simp only[nr])
   (refine tkQ 1 t ?_;simp only[nr])
   (refine tkQ 2 t ?_;simp only[nr])
   (refine tkQ 3 t ?_;simp only[nr])
   (refine tkS 4 ?_ t ?_ ?_;rotate_left;intro w F;obtain⟨f0,f1,f2,f3,f4,d0,l0,l1⟩:=HC.out _ F;clear F;go_simp;(try with_reducible rfl);simp only[nr])
   clear t;refine wS2 5 9 (λK g=> ?_) (λK g=> ?_)
   ·(go_wp2_with fail);refine(Y.out _ s).mono ?_;rintro e n ⟨v,rfl,hn,C⟩;have m:=zA.of_below (Z:=λ_=>True) C;clear C;obtain⟨y,d,rfl,-,-,-⟩:=hn.open_;have j:zA (λ_=>True) k n:=s.trans (m.mono λ_ _ h=>h);have ap:=hn.live.mono (Z':=λb=>x.heap.size<=b/\b<n.heap.size) (λb h=>⟨h.1.resolve_left id,h.2⟩);refine g _ _ (Or.inr j) ?_;clear g K m
    (try simp only[nr])
    have t:(λW=>zA (λ_=>True) k W) n:=j
    (refine tkQ 6 t ?_;simp only[nr])
    (refine tkQ 7 t ?_;simp only[nr])
    (refine tkQ 8 t ?_;simp only[nr])
    clear t;refine wS1 9 (λK g=> ?_);(go_wp2_with fail);refine g _ _ (Or.inr (j.alloc _)) ?_;clear g K
    (try simp only[nr])
    have A:zA (λ_=>True) k (n.alloc (.cells #[.slice none 0 0] 83)):=j.alloc _;have i:=Blk.new n 83 #[.slice none 0 0];have N:=ap.keep ((zA.refl _ n).alloc (.cells #[.slice none 0 0] 83));generalize n.alloc (.cells #[.slice none 0 0] 83)=U at*;refine wS1 10 (λK g=> ?_);have c0:=i.at0;have g0:=i.frozen 0;have cl:=i.lt;have M:=hid i;clear i;(go_wp2_with fail);refine g _ _ (Or.inl rfl) ?_;clear g K
    (try simp only[nr])
    refine wS1 11 (λK g=> ?_);(go_wp2_with fail);refine g _ _ (Or.inl rfl) ?_;clear g K
    (try simp only[nr])
    refine wSd ?_ _;(go_wp2_with fail);go_meet;exact⟨n.heap.size,y,d,rfl,rfl,(M.out.set_ 0 _),j.size,(A.setCell (λ(h:n.heap.size<k.heap.size)=>absurd j.size (Nat.not_le_of_lt h)) _),(N.keep ((zA.refl _ _).setCell (λ_(h:x.heap.size<=n.heap.size/\n.heap.size<n.heap.size)=>absurd h (by omega)) _)).mono (λb(h:x.heap.size<=b/\b<n.heap.size)=>⟨Nat.le_trans s.size h.1,by omega⟩)⟩
   ·(go_wp2_with fail);refine g _ _ (Or.inr (s.alloc _)) ?_;clear g K
    (try simp only[nr])
    have j:zA (λ_=>True) k (x.alloc (.cells #[.slice none 0 0] 83)):=s.alloc _;have af:=Blk.new x 83 #[.slice none 0 0];generalize x.alloc (.cells #[.slice none 0 0] 83)=n at*;refine wS1 5 (λK g=> ?_);(go_wp2_with fail);refine(Y.out _ j).mono ?_;rintro e U ⟨v,rfl,hn,C⟩;have m:=zA.of_below (Z:=λ_=>True) C;clear C;obtain⟨y,d,rfl,-,-,-⟩:=hn.open_;have A:zA (λ_=>True) k U:=j.trans (m.mono λ_ _ h=>h);have N:=hn.live.mono (Z':=λb=>n.heap.size<=b/\b<U.heap.size) (λb h=>⟨h.1.resolve_left id,h.2⟩);have i:=af.keep m trivial;refine g _ _ (Or.inr A) ?_;clear g K m
    (try simp only[nr])
    have t:(λW=>zA (λ_=>True) k W) U:=A
    (refine tkQ 6 t ?_;simp only[nr])
    (refine tkQ 7 t ?_;simp only[nr])
    (refine tkQ 8 t ?_;simp only[nr])
    clear t;have ae:=hid (show x.heap.size<n.heap.size from af.lt);refine wS1 10 (λK g=> ?_);have c0:=i.at0;have g0:=i.frozen 0;have cl:=i.lt;have M:=hid i;clear i;(go_wp2_with fail);refine g _ _ (Or.inl rfl) ?_;clear g K
    (try simp only[nr])
    refine wS1 11 (λK g=> ?_);(go_wp2_with fail);refine g _ _ (Or.inl rfl) ?_;clear g K
    (try simp only[nr])
    refine wSd ?_ _;(go_wp2_with fail);go_meet;exact⟨x.heap.size,y,d,rfl,rfl,(M.out.set_ 0 _),s.size,(A.setCell (λ(h:x.heap.size<k.heap.size)=>absurd s.size (Nat.not_le_of_lt h)) _),(N.keep ((zA.refl _ _).setCell (λ_(h:n.heap.size<=x.heap.size/\x.heap.size<U.heap.size)=>absurd h (by have:=ae.out;omega)) _)).mono (λb(h:n.heap.size<=b/\b<U.heap.size)=>⟨Nat.le_trans j.size h.1,by have:=ae.out;omega⟩)⟩
  case rest=>
   obtain⟨Q,y,d,rfl,rfl,hx,ai,m,hN⟩:=hcut;(rename World=>w4);have ac:=hid hx;have L:=hid (a.out.2.2.1.keep m trivial);have z:=hid (a.out.2.2.2.keep m trivial);have aa:=hid ((zA.of_below a.out.1:zA (λc=>c≠R) w k).trans (m.mono λ_ _ _=>trivial));have ab:=hid hN;have a3:=a.out.1.size;have a1:=m.size;have a0:=ai;have a2:=L.out.lt;have az:=a.out.2.2.1.lt;clear hx m hN ai HC Y a;have r1:=z.out.at1;have av:=z.out.frozen 1;have ax:=z.out.lt;(go_upto_region 5 with fail);have E:zA (λc=>c≠R) w4 (w4.setCell ⟨R,1,none⟩ (.int .i64 G.2)):=(zA.refl _ _).setCell (p:=⟨R,1,none⟩) (λ_ h=>h rfl) _;have ao:=hid (z.out.set_ 1 (.int .i64 G.2));have ad:=hid (ac.out.keep E (by show Q≠R;omega));have H:=hid (L.out.keep E (by show w.heap.size+1≠R;omega));have ak:=hid (aa.out.trans E);have al:=hid (ab.out.keep (E.mono λb _ m=>by have:=m.1;show b≠R;omega));clear E z ac L aa ab r1 av ax;generalize w4.setCell ⟨R,1,none⟩ (.int .i64 G.2)=w5 at*;have x:=ad.out.at0;have xl:=ad.out.lt;have o0:=H.out.at0;have au:=H.out.frozen 0;have ol:=H.out.lt;(go_wp2_with fail);have P:zA (λb=>b≠w.heap.size+1) w5 (w5.setCell ⟨w.heap.size+1,0,none⟩ (.slice y G.1.length d)):=(zA.refl _ _).setCell (λ_ h=>h rfl) _;have hB:=H.out.set_ 0 (.slice y G.1.length d);have q0:=hB.at0;refine bodyPost_ret (v:= .agg #[.slice y G.1.length d]) (by simp[results,results41,go_sem,q0]) rfl ?_;unfold zGs;rw[HE.out];exact⟨y,d,rfl,(al.out.keep (P.mono λb _ m=>by have:=m.1;show b≠w.heap.size+1;omega)).mono λb m=>by have:=m.1;show w.heap.size<=b;omega,Blk.keep ao.out P (by show R≠w.heap.size+1;omega),ak.out.ne2 P (by omega)⟩
 ·have HE:=hid (show zA6 ds o f=([],o) from by unfold zA6;rw[if_pos he]);have aq:(o !=(0:Int))=true:=by simp[he]
  clear he;have o0:=a.out.2.2.1.at0;have au:=a.out.2.2.1.frozen 0;have ol:=a.out.2.2.1.lt;go_wp2_with fail
  have hB:=a.out.2.2.1.set_ 0 (.slice none 0 0);have q0:=hB.at0;refine bodyPost_ret (v:= .agg #[.slice none 0 0]) (by simp[results,results41,go_sem,q0]) rfl ?_;unfold zGs;rw[HE.out];exact⟨none,0,rfl,zJz _ _,a.out.2.2.2.far (p:=⟨w.heap.size+1,0,none⟩) (by show R≠w.heap.size+1;omega) _,(zA.of_below a.out.1).setCell (p:=⟨w.heap.size+1,0,none⟩) (λ(h:w.heap.size+1<w.heap.size)=>absurd h (by omega)) _⟩
theorem Tryz.zeroDia(w:World):(zeroValue 83).run prog w= .ok (.agg #[.slice none 0 0]) w:=by kernel_rfl
def zPS(R:Nat)(Zg:zE)(vd vo vm vp:Value)(r:List zB × Int)(w:World)(e:Ending)(w':World):Prop:=
 ∃A cap,e= .returned (.agg #[.slice A r.1.length cap])/\z8 (λb=>Zg b\/w.heap.size<=b) w' (.slice A r.1.length cap) r.1/\Blk w' R 78 #[vd,.int .i64 r.2,vo,vm,vp]/\zA (λc=>c≠R) w w'
theorem zVO(R M:Nat)(Z Zg:zE)(D:Option Addr)(d:Nat)(vo V:Value)(i:Int)(U:List (zAI × Value))(X:List (zAI × List zB))(o:zAI)(ds:List zC)(w:World)
  (hR:Blk w R 78 #[.slice D ds.length d,.int .i64 i,vo,.map (some M),V])(hm:zW zE2 w M U)(aj:KvG Zg w U X)(ap:∀b,Zg b->b≠R/\b<w.heap.size)(hd:Facts Z w (.slice D ds.length d) ds)(hz:∀b,Z b->b<w.heap.size)(F:zAD w.heap.size w):
  Calls prog 44 #[.pointer (some ⟨R,0,none⟩),.agg #[.string o.1,.bool o.2]] w (zPS R Zg (.slice D ds.length d) vo (.map (some M)) V (atE ds i X o) w):=by
 have rl:=hR.lt;have O:Bw w ((w.alloc (.cells #[.string o.1,.bool o.2] 85)).alloc (.cells #[.slice none 0 0] 83)):=(zF w _).alloc (by simp) _;have af:=(Blk.new w 85 #[.string o.1,.bool o.2]).alloc (.cells #[.slice none 0 0] 83);have ag:=zBv w (.cells #[.string o.1,.bool o.2] 85) 83 #[.slice none 0 0];have f:=hid (And.intro O (And.intro af (And.intro ag (hR.below O rl))));have a6:((w.alloc (.cells #[.string o.1,.bool o.2] 85)).alloc (.cells #[.slice none 0 0] 83)).heap.size =w.heap.size+2:=by simp
 have J:=hid hm;have ab:=hid (aj.get o);have I:=hid (λ(W:World)(T:zA (λc=>c≠R) w W)(hr:Blk W R 78 #[.slice D ds.length d,.int .i64 i,vo,.map (some M),V])(az:Facts Z W (.slice D ds.length d) ds)(ht:zAD W.heap.size W)=>zMW R (λ_=>False) Z D d vo (.map (some M)) V i fFm _ ds W hr (FmR.leaf (op:=2) (by unfold I64;omega)) (λb h=>h.elim) az (λb h=>Nat.lt_of_lt_of_le (hz b h) T.size) (by rw[show zG fFm=1 from by simp[fFm,zG,zM]];decide) ht);have HD:=hid hd;have ax:=hid ap;have ae:=hid F;clear O af ag hR hm aj hd ap F
 obtain⟨z,gl,a,Q,ai⟩:∃z gl a,∃Q:Bool,((if true then Value.tuple #[(zg U o).getD (.agg #[.slice none 0 0]),.bool (zg U o).isSome]else(zg U o).getD (.agg #[.slice none 0 0]))= .tuple #[.agg #[.slice z gl a],.bool Q])/\
   ((Q=true/\∃g,kvD X o=some g/\gl=g.length/\z8 Zg w (.slice z g.length a) g)\/(Q=false/\kvD X o=none)):=by
  rcases ab.out with⟨N,h2⟩|⟨v,g,N,h2,h3⟩
  ·exact⟨none,0,0,false,by rw[if_pos rfl,N];rfl,.inr ⟨rfl,h2⟩⟩
  ·obtain⟨A,c,rfl,-⟩:=h3.open_;exact⟨A,g.length,c,true,by rw[if_pos rfl,N];rfl,.inl ⟨rfl,g,h2,rfl,h3⟩⟩
 have B:=hid ai;clear ai ab;go_enter func44,ntmps44
 go_upto_region 1 with fail
 have ac:=hid (λ(W:World)(T:zA (λ_=>True) ((w.alloc (.cells #[.string o.1,.bool o.2] 85)).alloc (.cells #[.slice none 0 0] 83)) W)=>(show(Instr.lookup 75 (.map (some M)) (.agg #[.string o.1,.bool o.2]) true).run prog W= .ok (.tuple #[.agg #[.slice z gl a],.bool Q]) W from by
  have hk:Bw w W:=f.out.1.trans (T.below.mono f.out.1.size);have a0:zW zE2 W M U:=J.out.of_block (hk.block M J.out.lt);have:=a0.look zGK (t:=75) (e:=83) underlying75 (Tryz.zeroDia W) o true;rw[B.out.1]at this
  exact this))
 generalize (w.alloc (.cells #[.string o.1,.bool o.2] 85)).alloc (.cells #[.slice none 0 0] 83)=x at*
 have HC:=hid (λ(W:World)(T:zA (λ_=>True) x W)=>(show W.cell? ⟨R,3,none⟩=some (.map (some M))/\W.cell? ⟨w.heap.size,0,none⟩=some (.string o.1)/\W.cell? ⟨w.heap.size,1,none⟩=some (.bool o.2)/\w.heap.size<W.heap.size/\R<W.heap.size from by
  have N:=f.out.2.1.keep T trivial;have h3:=f.out.2.2.2.keep T trivial
  exact⟨h3.at3,N.at0,N.at1,N.lt,h3.lt⟩))
 go_cut[5,6] from 7 to 15 (λV a3 wx=>∃bx,V= .pointer (some ⟨bx,0,none⟩)/\a3= .bool Q/\Blk wx bx 83 #[.slice z gl a]/\x.heap.size<=bx/\zA (λ_=>True) x wx)
 case first=>
  refine zL 10 (λW=>zA (λ_=>True) x W) (by kernel_rfl) ?_;have s:zA (λ_=>True) x x.drew:=(zA.refl _ _).drew;have y:(λW=>zA (λ_=>True) x W) x.drew:=s;generalize x.drew=Y at*
  (refine tkQ 0 y ?_;simp only[nr])
  (refine tkQ 1 y ?_;simp only[nr])
  (refine tkQ 2 y ?_;simp only[nr])
  (refine tkS 3 ?_ y ?_ ?_;rotate_left;intro w j;obtain⟨m0,p0,p1,l0,l1⟩:=HC.out _ j;clear j;go_simp;(try with_reducible rfl);simp only[nr])
  (refine tkS 4 ?_ y ?_ ?_;rotate_left;intro w j;obtain⟨m0,p0,p1,l0,l1⟩:=HC.out _ j;clear j;go_simp;(try with_reducible rfl);simp only[nr])
  (refine tkS 5 ?_ y ?_ ?_;rotate_left;intro w j;have a5:=ac.out _ j;clear j;go_simp;(try with_reducible rfl);simp only[nr])
  (refine tkQ 6 y ?_;simp only[nr])
  (refine tkQ 7 y ?_;simp only[nr])
  (refine tkQ 8 y ?_;simp only[nr])
  clear y;refine wS1 9 (λK E=> ?_);go_wp2_with fail
  refine E _ _ (Or.inr (s.alloc _)) ?_;clear E K
  (try simp only[nr])
  have ay:zA (λ_=>True) x (Y.alloc (.cells #[.slice none 0 0] 83)):=s.alloc _;have u:=Blk.new Y 83 #[.slice none 0 0];generalize Y.alloc (.cells #[.slice none 0 0] 83)=x1 at*;refine wS1 10 (λK E=> ?_);have c0:=u.at0;have g0:=u.frozen 0;have cl:=u.lt;have aw:=hid u;clear u;go_wp2_with fail
  refine E _ _ (Or.inl rfl) ?_;clear E K
  (try simp only[nr])
  refine wS1 11 (λK E=> ?_);go_wp2_with fail
  refine E _ _ (Or.inl rfl) ?_;clear E K
  (try simp only[nr])
  refine wSd ?_ _;go_wp2_with fail
  go_meet;exact⟨Y.heap.size,rfl,rfl,(aw.out.set_ 0 _),s.size,(ay.setCell (λ(h:Y.heap.size<x.heap.size)=>absurd s.size (Nat.not_le_of_lt h)) _)⟩
 case rest=>
  obtain⟨bx,rfl,rfl,hx,ao,m⟩:=hcut;rename World=>w3
  have a1:=f.out.1.size;have ah:Bw w w3:=f.out.1.trans (m.below.mono a1);have av:=hid hx;have C:=hid (f.out.2.2.1.keep m trivial);have L:=hid (f.out.2.2.2.keep m trivial);have k:=hid ah;have a7:=m.size;have a4:=ao;clear hx m ao ah HC ac f J;rcases B.out.2 with⟨rfl,g,hg,rfl,hn⟩|⟨rfl,hg⟩
  ·have H:=hid (show atE ds i X o=(g,i) from by unfold atE;rw[hg]);have HN:=hid hn;clear hg hn B I;obtain⟨Y,a8,xl⟩:=av.out.c1;obtain⟨o0,a2,ol⟩:=C.out.c1;(go_wp2_with fail);have n:zA (λb=>b≠w.heap.size+1) w3 (w3.setCell ⟨w.heap.size+1,0,none⟩ (.slice z g.length a)):=(zA.refl _ _).setCell (λ_ h=>h rfl) _;have hB:=C.out.set_ 0 (.slice z g.length a);have q0:=hB.at0;refine bodyPost_ret (v:= .agg #[.slice z g.length a]) (by simp[results,results44,go_sem,q0]) rfl ?_;unfold zPS;rw[H.out];refine⟨z,a,rfl,?_,Blk.keep L.out n (by show R≠w.heap.size+1;omega),(zA.of_below k.out:zA (λc=>c≠R) w w3).ne2 n (by omega)⟩;exact((HN.out.keep (zA.of_below k.out)).keep (n.mono λb _ m=>by have:=(ax.out b m).2;show b≠w.heap.size+1;omega)).mono λb m=> .inl m
  ·have H:=hid (show atE ds i X o=zA6 ds i fFm from by unfold atE;rw[hg]);have aa:=hid (I.out w3 (zA.of_below k.out) L.out (HD.out.keep (zA.of_below k.out)) ((ae.out.on k.out).mono k.out.size));clear hg B I;(go_wp2_with fail);refine aa.out.mono ?_;rintro e w4 ⟨BA,q,rfl,ak,al,n⟩;generalize zA6 ds i fFm=G at*;have ad:=hid (C.out.keep n (by show w.heap.size+1≠R;omega));have au:=hid al;have ar:=hid ak;have aq:=hid ((zA.of_below k.out:zA (λc=>c≠R) w w3).trans n);clear al ak n aa C L;obtain⟨o0,a2,ol⟩:=ad.out.c1;(go_wp2_with fail);have P:zA (λb=>b≠w.heap.size+1) w4 (w4.setCell ⟨w.heap.size+1,0,none⟩ (.slice BA G.1.length q)):=(zA.refl _ _).setCell (λ_ h=>h rfl) _;have hB:=ad.out.set_ 0 (.slice BA G.1.length q);have q0:=hB.at0;refine bodyPost_ret (v:= .agg #[.slice BA G.1.length q]) (by simp[results,results44,go_sem,q0]) rfl ?_;unfold zPS;rw[H.out];refine⟨BA,q,rfl,?_,Blk.keep au.out P (by show R≠w.heap.size+1;omega),aq.out.ne2 P (by omega)⟩;exact(ar.out.keep (P.mono λb _ m=>by have m:w3.heap.size<=b:=m;show b≠w.heap.size+1;omega)).mono λb m=> .inr (by have m:w3.heap.size<=b:=m;omega)
theorem Tryz.eOut:zB0 prog 85 2 24:=zBp (z:= .agg #[.string ⟨#[]⟩,.bool false]) (by kernel_rfl) rfl (by decide)
theorem Tryz.eDia:zB0 prog 83 1 24:=zBp (z:= .agg #[.slice none 0 0]) (by kernel_rfl) rfl (by decide)
def Gy(w0 w:World)(R M:Nat)(E:zE)(vo vp:Value):zE:=λb=>w0.heap.size<=b/\b<w.heap.size/\b≠R/\b≠M/\¬E b/\vo.ownBlock≠some b/\vp.ownBlock≠some b
structure RgY (w0 w:World) (R M:Nat) (E:zE) (vd vo vp:Value) (err:Int) (outs:List zAI) (wh:List (zAI × List zB)) (parts:List (List zB)) (L:List (Value × List zB)):Prop where
 box:Blk w R 78 #[vd,.int .i64 err,vo,.map (some M),vp]
 outs:w.ownsRow w0.heap.size 85 2 vo outs.length (outs.flatMap zEm)
 map:∃kv,zW zE2 w M kv/\KvG (Gy w0 w R M E vo vp) w kv wh
 parts:∃csl,w.ownsRow w0.heap.size 83 1 vp parts.length csl.flatten/\zc (GcR (Gy w0 w R M E vo vp) w) 1 parts csl
 loc:∀p∈L,z8 (Gy w0 w R M E vo vp) w p.1 p.2
 lim:w0.heap.size<=R/\w0.heap.size<=M/\R≠M
 ex:∀b,E b->w0.heap.size<=b/\b<w.heap.size/\b≠R/\b≠M
 s1:∀b,vo.ownBlock=some b->b≠R/\b≠M/\¬E b
 s2:∀b,vp.ownBlock=some b->b≠R/\b≠M/\¬E b
 s3:∀b,vo.ownBlock=some b->vp.ownBlock≠some b
 be:Bw w0 w
section
variable {w0 w x:World} {R M:Nat} {E E' Z0:zE} {vd vo vp:Value} {err er2:Int} {outs:List zAI} {wh:List (zAI × List zB)} {parts:List (List zB)} {L:List (Value × List zB)} {D:Option Addr} {dcap:Nat} {ds:List zC}
theorem RgY.rl(h:RgY w0 w R M E vd vo vp err outs wh parts L):R<w.heap.size:=h.box.lt
theorem RgY.ml(h:RgY w0 w R M E vd vo vp err outs wh parts L):M<w.heap.size:=by obtain⟨b,a,_⟩:=h.map;exact a.lt
theorem RgY.gen(h:RgY w0 w R M E vd vo vp err outs wh parts L)(i:zA (λc=>c≠K) w x)(d:K=R\/E K\/w.heap.size<=K)(B:∀b,E' b->E b\/(w.heap.size<=b/\b<x.heap.size))(a:Blk x R 78 #[vd,.int .i64 er2,vo,.map (some M),vp]):RgY w0 x R M E' vd vo vp er2 outs wh parts L:=by
 have I:=h.rl;have y:=h.ml;have F:=h.be.size
 have m:zA (Gy w0 w R M E vo vp) w x:=i.mono λb a m=>by
  rcases d with rfl|d|d
  ·exact m.2.2.1
  ·intro e;subst e;exact m.2.2.2.2.1 d
  ·show b≠K;omega
 have j:∀b,b<w.heap.size->¬E b->¬E' b:=λb f q C=>by
  rcases B b C with A|A
  ·exact q A
  ·omega
 have k:∀b,Gy w0 w R M E vo vp b->Gy w0 x R M E' vo vp b:=λb a=>⟨a.1,by have:=a.2.1;have:=i.size;omega,a.2.2.1,a.2.2.2.1,j b a.2.1 a.2.2.2.2.1,a.2.2.2.2.2⟩
 have s:w0.heap.size<=K:=by
  rcases d with rfl|d|d
  ·exact h.lim.1
  ·exact(h.ex K d).1
  ·omega
 have t:M≠K:=by
  rcases d with rfl|d|d
  ·exact h.lim.2.2.symm
  ·exact(h.ex K d).2.2.2.symm
  ·omega
 obtain⟨J,H,u⟩:=h.map;obtain⟨o,n,he⟩:=h.parts
 refine⟨a,zX (Z:=λc=>c≠K) h.outs i λb a=> ?_,⟨J,H.of_block (i.block _ y t),u.imp λv g z=>(z.keep m).mono k⟩,
  ⟨o,zX (Z:=λc=>c≠K) n i λb a=> ?_,he.imp λN g G=>by obtain⟨v,e,z⟩:=G;exact⟨v,e,(z.keep m).mono k⟩⟩,λp n=>((h.loc p n).keep m).mono k,h.lim,λb a=> ?_,
  λb a=>⟨(h.s1 b a).1,(h.s1 b a).2.1,j b (h.outs.lt b a).2 (h.s1 b a).2.2⟩,λb a=>⟨(h.s2 b a).1,(h.s2 b a).2.1,j b (n.lt b a).2 (h.s2 b a).2.2⟩,h.s3,zd h.be i s h.be.size⟩
 ·have f:=h.s1 b a;have q:=(h.outs.lt b a).2;rcases d with rfl|d|d
  ·exact f.1
  ·intro e;subst e;exact f.2.2 d
  ·show b≠K;omega
 ·have f:=h.s2 b a;have q:=(n.lt b a).2;rcases d with rfl|d|d
  ·exact f.1
  ·intro e;subst e;exact f.2.2 d
  ·show b≠K;omega
 ·have O:=h.lim;rcases B b a with f|f
  ·have D:=h.ex b f;have:=i.size;exact⟨D.1,by omega,by omega,by omega⟩
  ·exact⟨by omega,f.2,by omega,by omega⟩
theorem RgY.step(h:RgY w0 w R M E vd vo vp err outs wh parts L)(b:zA (λc=>c≠R) w x)(a:Blk x R 78 #[vd,.int .i64 er2,vo,.map (some M),vp]):RgY w0 x R M E vd vo vp er2 outs wh parts L:=h.gen b (.inl rfl) (λ_ h=> .inl h) a
theorem RgY.below(h:RgY w0 w R M E vd vo vp err outs wh parts L)(a:Bw w x):RgY w0 x R M E vd vo vp err outs wh parts L:=h.step (.of_below a) (h.box.below a h.rl)
theorem RgY.alloc(h:RgY w0 w R M E vd vo vp err outs wh parts L)(o:Obj):RgY w0 (w.alloc o) R M (λb=>E b\/b=w.heap.size) vd vo vp err outs wh parts L:=
 h.gen (K:=R) (.of_below (zF w o)) (.inl rfl) (λb a=>a.imp id λe=>⟨by omega,by simp;omega⟩) (h.box.below (zF w o) h.rl)
theorem RgY.drew(h:RgY w0 w R M E vd vo vp err outs wh parts L):RgY w0 w.drew R M E vd vo vp err outs wh parts L:=h.below (Below.refl _ _).drew
theorem RgY.less(h:RgY w0 w R M E vd vo vp err outs wh parts L)(a:∀b,E' b->E b):RgY w0 w R M E' vd vo vp err outs wh parts L:=h.gen (K:=R) (zA.refl _ _) (.inl rfl) (λb c=> .inl (a b c)) h.box
theorem RgY.setE(h:RgY w0 w R M E vd vo vp err outs wh parts L)(a:E K)(b:zA (λc=>c≠K) w x):RgY w0 x R M E vd vo vp err outs wh parts L:=h.gen b (.inr (.inl a)) (λ_ h=> .inl h) (h.box.keep b (h.ex K a).2.2.1.symm)
theorem RgY.setBox(h:RgY w0 w R M E vd vo vp err outs wh parts L)(a:E K)(i:Nat)(v:Value):RgY w0 (w.setCell ⟨K,i,none⟩ v) R M E vd vo vp err outs wh parts L:=h.setE a ((zA.refl _ _).setCell (p:=⟨K,i,none⟩) (λ_ h=>h rfl) _)
theorem RgY.add(h:RgY w0 w R M E vd vo vp err outs wh parts L)(a:z8 (Gy w0 w R M E vo vp) w v g):RgY w0 w R M E vd vo vp err outs wh parts ((v,g)::L):=
 ⟨h.box,h.outs,h.map,h.parts,λp b=>(List.mem_cons.1 b).elim (λe=>e▸a) (h.loc p),h.lim,h.ex,h.s1,h.s2,h.s3,h.be⟩
theorem RgY.sub(h:RgY w0 w R M E vd vo vp err outs wh parts L){L':List (Value × List zB)}(a:∀p∈L',p∈L):RgY w0 w R M E vd vo vp err outs wh parts L':=
 ⟨h.box,h.outs,h.map,h.parts,λp b=>h.loc p (a p b),h.lim,h.ex,h.s1,h.s2,h.s3,h.be⟩
theorem RgY.callAt(h:RgY w0 w R M E vd vo vp err outs wh parts L){f:Int}(o:z8 (λb=>Gy w0 w R M E vo vp b\/w.heap.size<=b) x v g)(d:Blk x R 78 #[vd,.int .i64 f,vo,.map (some M),vp])(m:zA (λc=>c≠R) w x):
  RgY w0 x R M E vd vo vp f outs wh parts ((v,g)::L):=by
 have s:=h.rl;have n:=h.ml;have k:=h.be.size;refine(h.step m d).add (o.live.mono λb d=> ?_);obtain⟨a|a,i⟩:=d
 ·exact⟨a.1,i,a.2.2⟩
 ·have a:w.heap.size<=b:=a;exact⟨by omega,i,by omega,by omega,λe=>by have:=(h.ex b e).2.1;omega,λe=>by have:=(h.outs.lt b e).2;omega,λe=>by obtain⟨j,q,_⟩:=h.parts;have:=(q.lt b e).2;omega⟩
structure zKA (Z0:zE) (w0:World) (vd:Value) (ds:List zC):Prop where
 fd:Facts Z0 w0 vd ds
 hz:∀b,Z0 b->b<w0.heap.size
 tab:zAD w0.heap.size w0
theorem zKA.facts(c:zKA Z0 w0 vd ds)(a:Bw w0 w):Facts (λb=>b<w.heap.size) w vd ds:=(c.fd.keep (.of_below a)).mono λb h=>Nat.lt_of_lt_of_le (c.hz b h) a.size
theorem RgY.low(h:RgY w0 w R M E vd vo vp err outs wh parts L)(a:(v,g)∈L):z8 (λb=>b<w.heap.size) w v g:=(h.loc _ a).mono λ_ c=>c.2.1
def zU1(w0 w:World)(R M:Nat)(E:zE)(vd vo vp:Value)(outs:List zAI)(wh:List (zAI × List zB))(parts:List (List zB))(L:List (Value × List zB))(r:List zB × Int)(e:Ending)(x:World):Prop:=
 ∃A cap,e= .returned (.agg #[.slice A r.1.length cap])/\RgY w0 x R M E vd vo vp r.2 outs wh parts ((.slice A r.1.length cap,r.1)::L)/\zA (λc=>c≠R) w x
theorem RgY.and(h:RgY w0 w R M E (.slice D ds.length dcap) vo vp err outs wh parts L)(d:zKA Z0 w0 (.slice D ds.length dcap) ds){a b:List zB}(g:(va,a)∈L)(i:(vb,b)∈L):
  Calls prog 42 #[.pointer (some ⟨R,0,none⟩),.agg #[va],.agg #[vb]] w (zU1 w0 w R M E (.slice D ds.length dcap) vo vp outs wh parts L (zAx ds err a b)):=by
 refine(zU0 R (λb=>b<w.heap.size) D dcap vo (.map (some M)) vp va vb err a b ds w h.box (h.low g) (h.low i) (d.facts h.be) (λ_ h=>h) ((d.tab.on h.be).mono h.be.size)).mono ?_;rintro e x ⟨A,c,rfl,j,k,f⟩;exact⟨A,c,rfl,h.callAt (j.mono λ_ h=> .inr h) k f,f⟩
theorem RgY.build(h:RgY w0 w R M E (.slice D ds.length dcap) vo vp err outs wh parts L)(g:zKA Z0 w0 (.slice D ds.length dcap) ds){f:Fm}{cs:List Value}{Zf:zE}(j:FmR Zf w f cs)(d:∀b,Zf b->b<w.heap.size)(c:zG f<=1000000):
  Calls prog 41 #[.pointer (some ⟨R,0,none⟩),.agg cs.toArray] w (zU1 w0 w R M E (.slice D ds.length dcap) vo vp outs wh parts L (zA6 ds err f)):=by
 refine(zMW R Zf (λb=>b<w.heap.size) D dcap vo (.map (some M)) vp err f cs ds w h.box j d (g.facts h.be) (λ_ h=>h) c ((g.tab.on h.be).mono h.be.size)).mono ?_;rintro e x ⟨A,a,rfl,k,m,i⟩;exact⟨A,a,rfl,h.callAt (k.mono λ_ h=> .inr h) m i,i⟩
theorem RgY.at_(h:RgY w0 w R M E (.slice D ds.length dcap) vo vp err outs wh parts L)(f:zKA Z0 w0 (.slice D ds.length dcap) ds)(o:zAI):
  Calls prog 44 #[.pointer (some ⟨R,0,none⟩),.agg #[.string o.1,.bool o.2]] w (zU1 w0 w R M E (.slice D ds.length dcap) vo vp outs wh parts L (atE ds err wh o)):=by
 obtain⟨m,i,c⟩:=h.map;refine(zVO R M (λb=>b<w.heap.size) (Gy w0 w R M E vo vp) D dcap vo vp err m wh o ds w h.box i c (λb d=>⟨d.2.2.1,d.2.1⟩) (f.facts h.be) (λ_ h=>h) ((f.tab.on h.be).mono h.be.size)).mono ?_;rintro e x ⟨A,a,rfl,j,k,g⟩;exact⟨A,a,rfl,h.callAt j k g,g⟩
theorem RgY.not(h:RgY w0 w R M E vd vo vp err outs wh parts L)(f:(v,g)∈L):
  Calls prog 43 #[.agg #[v]] w (λe x=>∃A a,e= .returned (.agg #[.slice A (zAC g).length a])/\RgY w0 x R M E vd vo vp err outs wh parts ((.slice A (zAC g).length a,zAC g)::L)/\zA (λc=>c≠R) w x):=by
 refine(zUz _ v g w (h.loc _ f)).mono ?_;rintro e x ⟨i,rfl,d,b⟩;obtain⟨A,a,rfl,-⟩:=d.open_;exact⟨A,a,rfl,h.callAt (d.mono λ_ b=>b.imp And.left id) (h.box.below b h.rl) (.of_below b),.of_below b⟩
theorem RgY.setM(h:RgY w0 w R M E vd vo vp err outs wh parts L){s:List (zAI × Value)}(k:KvG (Gy w0 w R M E vo vp) w s wh)(u:(v,g)∈L)(z:zW zE2 x M (zAU s o (.agg #[v])))(f:zA (λc=>c≠M) w x):
  RgY w0 x R M E vd vo vp err outs (zC3 wh o g) parts L:=by
 have q:=h.lim;have i:zA (Gy w0 w R M E vo vp) w x:=f.mono λb a i=>i.2.2.2.1
 have d:∀b,Gy w0 w R M E vo vp b->Gy w0 x R M E vo vp b:=λb a=>⟨a.1,by have:=a.2.1;have:=f.size;omega,a.2.2⟩
 obtain⟨j,n,he⟩:=h.parts
 exact⟨h.box.keep f q.2.2,zX (Z:=λc=>c≠M) h.outs f λb a=>(h.s1 b a).2.1,⟨_,z,(k.imp λv g m=>(m.keep i).mono d).set (((h.loc _ u).keep i).mono d)⟩,
  ⟨j,zX (Z:=λc=>c≠M) n f λb a=>(h.s2 b a).2.1,he.imp λA g y=>by obtain⟨v,e,m⟩:=y;exact⟨v,e,(m.keep i).mono d⟩⟩,λp n=>((h.loc p n).keep i).mono d,h.lim,
  λb a=>by have t:=h.ex b a;have:=f.size;exact⟨t.1,by omega,by omega,by omega⟩,h.s1,h.s2,h.s3,zd h.be f q.2.1 h.be.size⟩
theorem RgY.pushO(h:RgY w0 w R M E vd vo vp err outs wh parts L){d:Value}(N:x.ownsRow w0.heap.size 85 2 d (outs.length+1) (outs.flatMap zEm++zEm o))(F:(w.alloc ob).grownBy x vo.ownBlock)(n:d.ownBlock=vo.ownBlock\/d.ownBlock=some (w.alloc ob).heap.size):
  Blk x R 78 #[vd,.int .i64 err,vo,.map (some M),vp]/\RgY w0 (x.setCell ⟨R,2,none⟩ d) R M E vd d vp err (outs++[o]) wh parts L:=by
 have O:=h.rl;have B:=h.ml;have J:=h.lim;have H:=h.be.size;have Q:(w.alloc ob).heap.size =w.heap.size+1:=by show(w.alloc ob).heap.size =_;simp
 have P:=F.size;have f:zA (λc=>vo.ownBlock≠some c) w x:=((zA.refl _ w).alloc ob).grown F λb a _ t=>t a
 have s:zA (λc=>c≠R) x (x.setCell ⟨R,2,none⟩ d):=(zA.refl _ _).setCell (p:=⟨R,2,none⟩) (λ_ h=>h rfl) _;have T:(x.setCell ⟨R,2,none⟩ d).heap.size =x.heap.size:=by simp[World.setCell]
 have q:Blk x R 78 #[vd,.int .i64 err,vo,.map (some M),vp]:=h.box.keep f λe=>(h.s1 R e).1 rfl
 have m:∀b,Gy w0 w R M E vo vp b->Gy w0 (x.setCell ⟨R,2,none⟩ d) R M E d vp b:=λb a=>⟨a.1,by have:=a.2.1;omega,a.2.2.1,a.2.2.2.1,a.2.2.2.2.1,λe=>by
  rcases n with j|j
  ·exact a.2.2.2.2.2.1 (by rw[<-j,e])
  ·rw[j]at e;injection e with e;have:=a.2.1;omega,a.2.2.2.2.2.2⟩
 have t:zA (Gy w0 w R M E vo vp) w (x.setCell ⟨R,2,none⟩ d):=(f.mono λb _ a=>a.2.2.2.2.2.1).trans (s.mono λb _ a=>a.2.2.1)
 have i:∀b,d.ownBlock=some b->vo.ownBlock=some b\/b=w.heap.size+1:=λb a=>by
  rcases n with j|j
  ·exact .inl (by rw[<-j,a])
  ·rw[j]at a;injection a with a;exact .inr (by omega)
 obtain⟨U,K,A⟩:=h.map;obtain⟨y,u,he⟩:=h.parts
 refine⟨q,q.set_ 2 d,?_,⟨U,(K.of_block (f.block _ B λe=>(h.s1 M e).2.1 rfl)).of_block (s.block _ (by omega) J.2.2.symm),A.imp λv g C=>(C.keep t).mono m⟩,
  ⟨y,zX (Z:=λc=>c≠R) (zX (Z:=λc=>vo.ownBlock≠some c) u f λb a e=>h.s3 b e a) s λb a=>(h.s2 b a).1,he.imp λV g I=>by obtain⟨v,e,C⟩:=I;exact⟨v,e,(C.keep t).mono m⟩⟩,λp u=>((h.loc p u).keep t).mono m,h.lim,λb a=>by have:=h.ex b a;exact⟨this.1,by omega,this.2.2.1,this.2.2.2⟩,λb a=> ?_,h.s2,λb a e=> ?_,?_⟩
 ·have D:∀b,d.ownBlock=some b->b≠R:=λb a=>(i b a).elim (λe=>(h.s1 b e).1) (λe=>by omega)
  have:=zX (Z:=λc=>c≠R) N s D;rw[List.length_append,List.length_singleton,List.flatMap_append];simpa[zEm]using this
 ·rcases i b a with e|e
  ·exact h.s1 b e
  ·exact⟨by omega,by omega,λG=>by have:=(h.ex b G).2.1;omega⟩
 ·rcases i b a with j|j
  ·exact h.s3 b j e
  ·have:=(u.lt b e).2;omega
 ·exact zd ⟨f.os.trans h.be.os,f.tape.trans h.be.tape,f.output.trans h.be.output,by omega,λk z=>(f.block k (by omega) (λe=>by have:=(h.outs.lt k e).1;omega)).trans (h.be.block k z)⟩ s h.lim.1 (by omega)
theorem RgY.pushP(h:RgY w0 w R M E vd vo vp err outs wh parts L)(F:(v,g)∈L){d:Value}{csl:List (List Value)}(B:w.ownsRow w0.heap.size 83 1 vp parts.length csl.flatten)(he:zc (GcR (Gy w0 w R M E vo vp) w) 1 parts csl)
  (K:x.ownsRow w0.heap.size 83 1 d (parts.length+1) (csl.flatten++[v]))(C:(w.alloc ob).grownBy x vp.ownBlock)(o:d.ownBlock=vp.ownBlock\/d.ownBlock=some (w.alloc ob).heap.size):
  Blk x R 78 #[vd,.int .i64 err,vo,.map (some M),vp]/\RgY w0 (x.setCell ⟨R,4,none⟩ d) R M E vd vo d err outs wh (parts++[g]) L:=by
 have N:=h.rl;have y:=h.ml;have I:=h.lim;have G:=h.be.size;have P:(w.alloc ob).heap.size =w.heap.size+1:=by show(w.alloc ob).heap.size =_;simp
 have O:=C.size;have f:zA (λc=>vp.ownBlock≠some c) w x:=((zA.refl _ w).alloc ob).grown C λb a _ n=>n a
 have s:zA (λc=>c≠R) x (x.setCell ⟨R,4,none⟩ d):=(zA.refl _ _).setCell (p:=⟨R,4,none⟩) (λ_ h=>h rfl) _;have Q:(x.setCell ⟨R,4,none⟩ d).heap.size =x.heap.size:=by simp[World.setCell]
 have q:Blk x R 78 #[vd,.int .i64 err,vo,.map (some M),vp]:=h.box.keep f λe=>(h.s2 R e).1 rfl
 have m:∀b,Gy w0 w R M E vo vp b->Gy w0 (x.setCell ⟨R,4,none⟩ d) R M E vo d b:=λb a=>⟨a.1,by have:=a.2.1;omega,a.2.2.1,a.2.2.2.1,a.2.2.2.2.1,a.2.2.2.2.2.1,λe=>by
  rcases o with j|j
  ·exact a.2.2.2.2.2.2 (by rw[<-j,e])
  ·rw[j]at e;injection e with e;have:=a.2.1;omega⟩
 have n:zA (Gy w0 w R M E vo vp) w (x.setCell ⟨R,4,none⟩ d):=(f.mono λb _ a=>a.2.2.2.2.2.2).trans (s.mono λb _ a=>a.2.2.1)
 have i:∀b,d.ownBlock=some b->vp.ownBlock=some b\/b=w.heap.size+1:=λb a=>by
  rcases o with j|j
  ·exact .inl (by rw[<-j,a])
  ·rw[j]at a;injection a with a;exact .inr (by omega)
 obtain⟨T,J,u⟩:=h.map
 refine⟨q,q.set_ 4 d,zX (Z:=λc=>c≠R) (zX (Z:=λc=>vp.ownBlock≠some c) h.outs f λb a e=>h.s3 b a e) s λb a=>(h.s1 b a).1,⟨T,(J.of_block (f.block _ y λe=>(h.s2 M e).2.1 rfl)).of_block (s.block _ (by omega) I.2.2.symm),u.imp λv g z=>(z.keep n).mono m⟩,
  ⟨csl++[[v]],?_,(he.imp λU g H=>by obtain⟨v,e,z⟩:=H;exact⟨v,e,(z.keep n).mono m⟩).append (zc.one ⟨v,rfl,((h.loc _ F).keep n).mono m⟩ rfl)⟩,λp B=>((h.loc p B).keep n).mono m,h.lim,λb a=>by have:=h.ex b a;exact⟨this.1,by omega,this.2.2.1,this.2.2.2⟩,h.s1,λb a=> ?_,λb a e=> ?_,?_⟩
 ·have A:∀b,d.ownBlock=some b->b≠R:=λb a=>(i b a).elim (λe=>(h.s2 b e).1) (λe=>by omega)
  have:=zX (Z:=λc=>c≠R) K s A;rw[List.length_append,List.length_singleton,List.flatten_append];simpa using this
 ·rcases i b a with e|e
  ·exact h.s2 b e
  ·exact⟨by omega,by omega,λD=>by have:=(h.ex b D).2.1;omega⟩
 ·rcases i b e with j|j
  ·exact h.s3 b a j
  ·have:=(h.outs.lt b a).2;omega
 ·exact zd ⟨f.os.trans h.be.os,f.tape.trans h.be.tape,f.output.trans h.be.output,by omega,λk t=>(f.block k (by omega) (λe=>by have:=(B.lt k e).1;omega)).trans (h.be.block k t)⟩ s h.lim.1 (by omega)
end
end Go.Proofs.YthpocbeoanipbaaGreatDoor
