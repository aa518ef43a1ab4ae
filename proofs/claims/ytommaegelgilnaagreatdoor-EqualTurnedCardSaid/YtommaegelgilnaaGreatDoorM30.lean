/- Lemmas. -/
import Derived.Test.YtommaegelgilnaaGreatDoorM21
import Derived.SevenTiedAt
import Derived.Test.YtommaegelgilnaaGreatDoorM28
import Derived.Test.YtommaegelgilnaaGreatDoorM29
import Derived.Test.YtommaegelgilnaaGreatDoorM27
set_option linter.all false
namespace Go.Proofs.YtommaegelgilnaaGreatDoor
open Go.RowKit Go.Proofs.Tryz
set_option maxHeartbeats 2000000
set_option maxRecDepth 100000
variable {c l pre:List Int}{ds:List zE}{f:Fm}{i:Int}{m:Nat}{v:Value}
section
open Go.ChangeShapes Go.WideShapes Go.ChangeAt
section ops
variable {H:Type} {enc:TypeId × Value->H} {w:World} {held:Bool}
theorem zHC:prog.underlying 3=some (.int .i64):=underlying3
theorem zND:prog.underlying 9=some .string :=underlying9
theorem zHD:prog.cellsOf 3=1:=by kernel_rfl
theorem zQW:prog.cellsOf 9=1:=by kernel_rfl
theorem zOr{α:Type}(f:α->Value){l:List α}{A:Option Addr}(h:zAW (λcs(n:α)=>cs=[f n]) 1 (zCf w) w l A):Row (zCf w) w A (l.map f):=by
 have:∀(l:List α)(A:Option Addr),zAW (λcs(n:α)=>cs=[f n]) 1 (zCf w) w l A->zAW (λcs v=>cs=[v]) 1 (zCf w) w (l.map f) A:=by
  intro l
  induction l with
  |nil=>intro A _;exact trivial
  |cons n l ih=>intro A ⟨b,a,cs,e,i,g,c,d⟩;exact⟨b,a,cs,e,i,g,c,ih _ d⟩
 exact zIU (this _ _ h)
theorem zSt{y:DataW H × List MemPlace}(h:DataW.trod enc prog w 0 (λ_=>true) held m 26 [v]=some y)(c:zBb prog 26 y.1):∃xs,Names (zCf w) w v xs:=by
 obtain⟨l,A,a,e,f,g,j,d⟩:=zFg (R:=λb(s:ByteArray)=>b=[.string s]/\zB2 s) (by decide) underlying26 (show prog.cellsOf 9=1 by kernel_rfl) h c (λm b y _ hl q c=>by
  match b,hl with
  |[c0],_=>
  obtain⟨s,rfl,n⟩:=zH1 zND q c
  exact⟨s,rfl,n⟩)
 rw[show prog.bytesOf 9=16 by kernel_rfl,zDv]at j;obtain rfl:v=_:=by simpa using e
 refine⟨l,⟨A,a,rfl,f,by simpa[maxLen]using g,by omega,zOr _ (d.imp (λ_ _ h=>h.1) (zA.refl _ _) (λ_ h=>h))⟩,λx o=> ?_⟩;obtain⟨i,k,rfl⟩:=List.getElem_of_mem o;obtain⟨_,_,_,_,_,_,h⟩:=zAW.at_ d k;exact h.2
theorem zSu{y:DataW H × List MemPlace}(h:DataW.trod enc prog w 0 (λ_=>true) held m 22 [v]=some y)(B:zBb prog 22 y.1):∃xs,zn (zCf w) w v xs:=by
 obtain⟨b,c,d,g,i,j,k,n,Z,⟨L,o0⟩,⟨M,o1⟩,⟨t2,o2⟩,⟨N,o3⟩,⟨O,o4⟩,⟨t5,o5⟩,⟨t6,o6⟩,⟨t7,o7⟩⟩:∃b c d g i j k n,prog.underlying 54=some (.struct #[b,c,d,g,i,j,k,n])/\(b.type=9/\b.offset=0)/\(c.type=9/\c.offset=1)/\(d.type=3/\d.offset=2)/\(g.type=9/\g.offset=3)/\(i.type=52/\i.offset=4)/\(j.type=3/\j.offset=9)/\(k.type=3/\k.offset=10)/\(n.type=3/\n.offset=11):=⟨_,_,_,_,_,_,_,_,underlying54,⟨rfl,rfl⟩,⟨rfl,rfl⟩,⟨rfl,rfl⟩,⟨rfl,rfl⟩,⟨rfl,rfl⟩,⟨rfl,rfl⟩,⟨rfl,rfl⟩,rfl,rfl⟩
 obtain⟨l,A,o,e,V,W,X,Y⟩:=zFg (R:=λq(x:zF)=>zBs (zCf w) w q x) (by decide) underlying22 (show prog.cellsOf 54=12 by kernel_rfl) h B (λm q y _ hl hy B=>by
  obtain⟨-,a⟩:=zEa Z hy B
  match q,hl with
  |[c0,c1,c2,c3,c4,c5,c6,c7,c8,c9,c10,c11],_=>
  obtain⟨m0,y0,-,C,P⟩:=a 0 b rfl;obtain⟨m1,y1,-,D,Q⟩:=a 1 c rfl;obtain⟨m2,y2,-,E,w2⟩:=a 2 d rfl;obtain⟨m3,y3,-,F,T⟩:=a 3 g rfl;obtain⟨m4,y4,-,G,U⟩:=a 4 i rfl;obtain⟨m5,y5,-,I,w5⟩:=a 5 j rfl;obtain⟨m6,y6,-,J,w6⟩:=a 6 k rfl;obtain⟨m7,y7,-,K,w7⟩:=a 7 n rfl;rw[L,o0,zQW]at C;rw[M,o1,zQW]at D;rw[t2,o2,zHD]at E;rw[N,o3,zQW]at F;rw[O,o4,show prog.cellsOf 52=5 by kernel_rfl]at G;rw[t5,o5,zHD]at I;rw[t6,o6,zHD]at J;rw[t7,o7,zHD]at K;rw[L]at P;rw[M]at Q;rw[N]at T;rw[O]at U;obtain⟨s0,rfl,t⟩:=zH1 zND C P;obtain⟨s1,rfl,u⟩:=zH1 zND D Q;obtain⟨n2,rfl,i2⟩:=zDG zHC E;obtain⟨s3,rfl,z⟩:=zH1 zND F T;obtain⟨f,s⟩:=zUW tys _ _ _ rfl G U;obtain⟨n5,rfl,i5⟩:=zDG zHC I;obtain⟨n6,rfl,i6⟩:=zDG zHC J;obtain⟨n7,rfl,i7⟩:=zDG zHC K
  exact⟨⟨s0,s1,n2,s3,f,n5,n6,n7⟩,_,s,rfl,t,u,z,i2,i5,i6,i7⟩)
 rw[show prog.bytesOf 54=144 by kernel_rfl,zDv]at X;obtain rfl:v=_:=by simpa using e
 exact⟨l,⟨A,o,rfl,V,by simpa[maxLen]using W,by omega,Y⟩⟩
theorem zRl{y:DataW H × List MemPlace}(h:DataW.trod enc prog w 0 (λ_=>true) held m 98 [v]=some y)(f:zBb prog 98 y.1):∃xs,zB4 (zCf w) w v xs:=by
 obtain⟨a,b,t,⟨F,D⟩,⟨G,E⟩⟩:∃a b,prog.underlying 104=some (.struct #[a,b])/\(a.type=3/\a.offset=0)/\(b.type=3/\b.offset=1):=⟨_,_,underlying104,⟨rfl,rfl⟩,rfl,rfl⟩
 obtain⟨l,A,c,e,k,n,o,q⟩:=zFg (R:=λd(s:Int × Int)=>d=[.int .i64 s.1,.int .i64 s.2]/\I64 s.1/\I64 s.2) (by decide) underlying98 (show prog.cellsOf 104=2 by kernel_rfl) h f (λm d y _ hl u f=>by
  obtain⟨-,g⟩:=zEa t u f
  match d,hl with
  |[c0,c1],_=>
  obtain⟨I,M,-,i,K⟩:=g 0 a rfl;obtain⟨J,N,-,j,L⟩:=g 1 b rfl;rw[F,D,zHD]at i;rw[G,E,zHD]at j;obtain⟨B,rfl,x⟩:=zDG zHC i;obtain⟨C,rfl,z⟩:=zDG zHC j
  exact⟨(B,C),rfl,x,z⟩)
 rw[show prog.bytesOf 104=16 by kernel_rfl,zDv]at o;obtain rfl:v=_:=by simpa using e
 exact⟨l,A,c,rfl,k,by simpa[maxLen]using n,by omega,q⟩
theorem zSv{y:DataW H × List MemPlace}(h:DataW.trod enc prog w 0 (λ_=>true) held m 27 [v]=some y)(d:zBb prog 27 y.1):∃xs,zCy (zCf w) w v xs:=by
 obtain⟨a,s,⟨i,z⟩⟩:∃a,prog.underlying 100=some (.struct #[a])/\(a.type=98/\a.offset=0):=⟨_,underlying100,rfl,rfl⟩
 obtain⟨l,A,b,e,k,n,o,q⟩:=zFg (R:=λc(x:zp)=>zF9 (zCf w) w c x) (by decide) underlying27 (show prog.cellsOf 100=1 by kernel_rfl) h d (λm c y _ hl u d=>by
  obtain⟨-,t⟩:=zEa s u d
  match c,hl with
  |[c0],_=>
  obtain⟨B,C,-,g,j⟩:=t 0 a rfl;rw[i,z,show prog.cellsOf 98=1 by kernel_rfl]at g;rw[i]at j;obtain⟨xs,f⟩:=zRl g j
  exact⟨xs,_,rfl,f⟩)
 rw[show prog.bytesOf 100=24 by kernel_rfl,zDv]at o;obtain rfl:v=_:=by simpa using e
 exact⟨l,⟨A,b,rfl,k,by simpa[maxLen]using n,by omega,q⟩⟩
theorem zTh{y:DataW H × List MemPlace}(h:DataW.trod enc prog w 0 (λ_=>true) held m 34 [v]=some y)(a:zBb prog 34 y.1):∃xs,zO (zCf w) w v xs:=by
 obtain⟨b,xs,e,h⟩:=zT2 underlying34 underlying3 (by kernel_rfl) (by kernel_rfl) h a;obtain rfl:v=b:=by simpa using e
 exact⟨xs,h⟩
theorem zSw{y:DataW H × List MemPlace}(h:DataW.trod enc prog w 0 (λ_=>true) held m 28 [v]=some y)(c:zBb prog 28 y.1):∃xs,zDK (zCf w) w v xs:=by
 obtain⟨l,A,a,e,f,g,i,j⟩:=zFg (R:=λb(x:List Int)=>zFC (zCf w) w b x) (by decide) underlying28 (show prog.cellsOf 34=1 by kernel_rfl) h c (λm b y _ hl k c=>by
  match b,hl with
  |[c0],_=>
  obtain⟨xs,d⟩:=zTh k c
  exact⟨xs,_,rfl,d⟩)
 rw[show prog.bytesOf 34=24 by kernel_rfl,zDv]at i;obtain rfl:v=_:=by simpa using e
 exact⟨l,⟨A,a,rfl,f,by simpa[maxLen]using g,by omega,j⟩⟩
end ops
section args
variable {H:Type} {enc:TypeId × Value->H} {W:World} {v:Value} {d:DataW H} {ps:List MemPlace} {base:Nat}
theorem zSx(f:Value.okWide prog W .any base 22 v)(e:DataW.Trod enc prog W 0 (λ_=>true) true 22 v d ps)(g:zBb prog 22 d):∃xs,zn (zCf W) W v xs:=by
 obtain⟨A,n,c,rfl⟩:=okWide_slice underlying22 f;obtain⟨a,b⟩:=e;exact zSu b g
theorem zRm(V:Value.okWide prog W .any base 30 v)(T:DataW.Trod enc prog W 0 (λ_=>true) true 30 v d ps)(X:zBb prog 30 d):∃vd F H G s,v= .agg #[vd,F,H,G,.int .i64 s.signed,.int .i64 s.now]/\zBq (zCf W) W vd F H G s:=by
 obtain⟨M,rfl,i⟩:=okWide_struct underlying30 V;obtain⟨n,Q⟩:=T;obtain⟨a,c,e,f,g,h,U,⟨A,o0⟩,⟨B,o1⟩,⟨C,o2⟩,⟨D,o3⟩,⟨t4,o4⟩,⟨t5,o5⟩⟩:∃a c e f g h,prog.underlying 30=some (.struct #[a,c,e,f,g,h])/\(a.type=25/\a.offset=0)/\(c.type=26/\c.offset=1)/\(e.type=27/\e.offset=2)/\(f.type=28/\f.offset=3)/\(g.type=3/\g.offset=4)/\(h.type=3/\h.offset=5):=⟨_,_,_,_,_,_,underlying30,⟨rfl,rfl⟩,⟨rfl,rfl⟩,⟨rfl,rfl⟩,⟨rfl,rfl⟩,⟨rfl,rfl⟩,rfl,rfl⟩;obtain⟨N,R,⟨z,r0⟩⟩:∃a,prog.underlying 25=some (.struct #[a])/\(a.type=23/\a.offset=0):=⟨_,underlying25,rfl,rfl⟩;obtain⟨-,b⟩:=zEa U Q X;obtain⟨l⟩:=M;rw[show prog.cellsOf 30=6 by kernel_rfl]at i
 match l,i with
 |[c0,c1,c2,c3,c4,c5],_=>
 obtain⟨m0,y0,-,q,I⟩:=b 0 a rfl;obtain⟨m1,y1,-,t,J⟩:=b 1 c rfl;obtain⟨m2,y2,-,u,K⟩:=b 2 e rfl;obtain⟨m3,y3,-,w,L⟩:=b 3 f rfl;obtain⟨m4,y4,-,x,w4⟩:=b 4 g rfl;obtain⟨m5,y5,-,y,w5⟩:=b 5 h rfl;rw[A,o0,show prog.cellsOf 25=1 by kernel_rfl]at q;rw[A]at I;rw[B,o1,show prog.cellsOf 26=1 by kernel_rfl]at t;rw[B]at J;rw[C,o2,show prog.cellsOf 27=1 by kernel_rfl]at u;rw[C]at K;rw[D,o3,show prog.cellsOf 28=1 by kernel_rfl]at w;rw[D]at L;rw[t4,o4,zHD]at x;rw[t5,o5,zHD]at y;obtain⟨-,m⟩:=zEa R q I;obtain⟨k0,z0,-,o,E⟩:=m 0 N rfl;rw[z,r0,show prog.cellsOf 23=1 by kernel_rfl]at o;rw[z]at E;obtain⟨ds,P⟩:=zSX tys o E;obtain⟨j,ha⟩:=zSt t J;obtain⟨zs,Y⟩:=zSv u K;obtain⟨k,O⟩:=zSw w L;obtain⟨n4,rfl,Z⟩:=zDG zHC x;obtain⟨n5,rfl,i5⟩:=zDG zHC y;exact⟨c0,c1,c2,c3,⟨ds,j,zs,k,n4,n5⟩,rfl,P,ha,Y,O,Z,i5⟩
end args
end
section
open Go
theorem zTi:mapsRowed prog=true:=by kernel_rfl
theorem zTj:(prog.stops==[])=true:=by kernel_rfl
theorem zTk:(prog.stopKnobs==[])=true:=by kernel_rfl
theorem zTl:prog.stopsHeard=true:=by kernel_rfl
theorem zTm:prog.mayEnter=true:=by kernel_rfl
theorem zTn:(Rows.equalMatchesReferenceRow.lifted==prog.liftsFinal)=true:=by kernel_rfl
theorem zUH:(Rows.equalMatchesReferenceRow.plainKeys==prog.plainKeys)=true:=by kernel_rfl
theorem zUI:(prog.make==some Rows.equalMatchesReferenceRow.make)=true:=by kernel_rfl
theorem zUJ:Tryz.pinned.checked.prog.mainIs=some (true,"b7c691893ac5ffd63a8a77a1c3b8b90599a3d2dc70d51f5bf9900650e53e98a9".toList):=by kernel_rfl
theorem zTo:true=Tryz.pinned.checked.prog.looks []:=by kernel_rfl
end
theorem zM2(nm:ByteArray)(x:Int)(ds:List zE):∀(m:Nat)(f:Fm),zH f<=m->zH f<=1000000->∀(Z:zD)(cs:List Value)(w:World),FmR Z w f cs->zA0 (zAB ds) f=0->
  Calls prog 178 #[.agg cs.toArray,.string nm,.int .i64 x] w (zEB Z (zZ nm x f) w):=by
 intro m
 induction m with
 |zero=>intro f hm;have:=zCH f;omega
 |succ m ih=>
 intro f hm hM Z cs w J G;have IH:=hid ih;clear ih;obtain⟨A,s,rfl⟩:=FmR.form J;obtain⟨h0,D⟩:=zDD G;obtain⟨d,o⟩:=zEL h0;obtain⟨k,a2⟩:=zHw J;have q:=hid (zIq nm x f);by_cases B:f.op=3
 ·by_cases F:f.name=nm
  ·(have ah:(f.name.toList==nm.toList)=true:=by rw[zBK];simp[F]);(have c:zZ nm x f=kn (zHP x f.cmp f.num):=by rw[q.out,if_pos B,if_pos F]);have HK:=hid (show ∀I,Bw w I->zEB Z (zZ nm x f) w (.returned (knV (zHP x f.cmp f.num))) I from λI hw=>⟨_,rfl,by rw[c];exact zNe _ _ _,hw⟩);(have aa:(f.op==(3:Int))=true:=by simp[B]);have HC:=hid (λw=>zOg x f.cmp f.num w);generalize zHP x f.cmp f.num=b at*;have HN:=hid (λw=>zMP b w);clear q B c J k D G d o h0 IH F;(go_enter func178,ntmps178);(go_wp2_with fail);refine(HC _).mono ?_;rintro e N ⟨rfl,rfl⟩;dsimp only;(go_wp2_with fail);refine(HN _).mono ?_;rintro e N ⟨rfl,n⟩;have H:=zA2 (zCX w _ _) n;(have ak:w.heap.size+1<N.heap.size:=by have:=n.size;simp at this;omega);have O:=hid ((Blk.new (w.alloc (.cells #[.int .i64 f.op,.string f.name,.int .i64 f.cmp,.int .i64 f.num,.slice A f.kids.length s] 52)) 52 #[.int .i64 0,.string ⟨#[]⟩,.int .i64 0,.int .i64 0,.slice none 0 0]).below n (by simp));simp only[World.size_alloc]at O;have y:=hid H;clear H n;unfold knV at HK;unfold knV;dsimp only;go_wp2_with(refine zN rfl 52 _ _ rfl rfl rfl O rfl Tryz.szF (by simp[Value.oneCell']) ?_;intro K i C ar);obtain⟨⟨r0,r1,r2,r3,r4⟩,-⟩:=zDU i;refine bodyPost_ret (v:=knV b) (by unfold knV;simp[results,results178,go_sem,r0,r1,r2,r3,r4];try rfl) rfl (HK _ (zAm y C (by omega) (by omega)))
  have ah:(f.name.toList==nm.toList)=false:=by rw[zBK];simp[F]
  have c:zZ nm x f=f:=by rw[q.out,if_pos B,if_neg F]
  have HK:=hid (show ∀I,Bw w I->zEB Z (zZ nm x f) w (.returned (.agg #[.int .i64 f.op,.string f.name,.int .i64 f.cmp,.int .i64 f.num,.slice A f.kids.length s])) I from λI hw=>⟨_,rfl,by rw[c];exact FmR.mono (λb hb=>Or.inl hb) _ _ (FmR.keep (.of_below hw) _ _ J),hw⟩);have aa:(f.op==(3:Int))=true:=by simp[B]
  clear q B c J k D G d o h0 IH F;go_enter func178,ntmps178
  go_wp2;refine bodyPost_ret (v:= .agg #[.int .i64 f.op,.string f.name,.int .i64 f.cmp,.int .i64 f.num,.slice A f.kids.length s]) (by simp[results,results178,go_sem];try rfl) rfl (HK _ (by exact blw))
 have aa:(f.op==(3:Int))=false:=by simp[B]
 by_cases P:f.op=4
 ·have E:f.kids.length=1:=by
   rw[zEz B]at d;split at d
   ·simp at d
   simpa[P]using d
  obtain⟨g,hg⟩:∃g,f.kids=[g]:=by
   cases hk:f.kids with
   |nil=>rw[hk]at E;simp at E
   |cons x r=>rw[hk]at E;simp at E;exact⟨x,by rw[E]⟩
  have ap:zH g<zH f:=by have:=zCQ f;rw[hg]at this;simp[zV]at this;omega
  rw[hg]at k D;have af:zA0 (zAB ds) g=0:=zCZ D 0 (by simp);obtain⟨b,av,cs,rfl,hz,ae,U,-⟩:=k;have M:=U;obtain⟨A',aw,rfl⟩:=FmR.form U;obtain⟨c0,c1,c2,c3,c4⟩:=zAL (λj u hu=>ae j u hu);have HC:=hid (λW(h:Bw w W)=>IH g (by omega) (by omega) (λb=>Z b/\b<w.heap.size) _ W (FmR.keep (.of_below h) _ _ (FmR.live _ _ M)) af);have c:zZ nm x f=zEe (zZ nm x g):=by rw[q.out,if_neg B,if_pos P,hg];simp[zAT]
  have HG:=hid c;have a3:(0:Int)<(f.kids.length:Nat):=by omega
  have a4:0<f.kids.length:=by omega
  have ak:=lt_of_cell c0;have aj:(f.op==(4:Int))=true:=by simp[P]
  clear q B P ae U M ap hg E D d o h0 af J c;generalize zZ nm x g=a at*;go_enter func178,ntmps178
  go_wp2_with fail
  refine(HC _ (zCX w _ _)).mono ?_;rintro e N ⟨ay,rfl,V,n⟩;obtain⟨A1,t,rfl⟩:=FmR.form V;have H:=zA2 (zCX w _ _) n;have ax:w.heap.size+1<N.heap.size:=by have:=n.size;simp at this;omega
  have O:=hid ((Blk.new (w.alloc (.cells #[.int .i64 f.op,.string f.name,.int .i64 f.cmp,.int .i64 f.num,.slice (some ⟨b,av,none⟩) f.kids.length s] 52)) 52 #[.int .i64 0,.string ⟨#[]⟩,.int .i64 0,.int .i64 0,.slice none 0 0]).below n (by simp));simp only[World.size_alloc]at O;have y:=hid H;have ai:=hid V;clear H n V;dsimp only;by_cases z:a.op=1\/a.op=2
  ·have L:=hid (show zEe a=kn (a.op==2) from if_pos z)
   have aq:((a.op==(1:Int))=true/\(a.op==(2:Int))=false)\/((a.op==(1:Int))=false/\(a.op==(2:Int))=true):=by
    rcases z with h|h<;>simp[h]
   have HN:=hid (λb w=>zMP b w);clear z;rcases aq with⟨ho,ho2⟩|⟨ho,ho2⟩
   ·(go_wp2_with fail);refine(HN _ _).mono ?_;rintro e K ⟨rfl,i⟩;have Q:=hid (((O).alloc (.cells #[.int .i64 a.op,.string a.name,.int .i64 a.cmp,.int .i64 a.num,.slice A1 a.kids.length t] 52)).below i (by simp;omega));have R:=hid (zA2 (y.alloc y.size _) i);(have ad:w.heap.size+1<K.heap.size:=by have:=i.size;simp at this;omega);clear i;unfold knV;dsimp only;go_wp2_with(refine zN rfl 52 _ _ rfl rfl rfl Q rfl Tryz.szF (by simp[Value.oneCell']) ?_;intro w3 T X au);obtain⟨⟨r0,r1,r2,r3,r4⟩,-⟩:=zDU T;refine bodyPost_ret (v:=knV false) (by unfold knV;simp[results,results178,go_sem,r0,r1,r2,r3,r4];try rfl) rfl ⟨_,rfl,?_,zAm R X (by omega) (by omega)⟩;rw[HG.out,L.out,ho2];exact zNe _ _ _
   (go_wp2_with fail);refine(HN _ _).mono ?_;rintro e K ⟨rfl,i⟩;have Q:=hid (((O).alloc (.cells #[.int .i64 a.op,.string a.name,.int .i64 a.cmp,.int .i64 a.num,.slice A1 a.kids.length t] 52)).below i (by simp;omega));have R:=hid (zA2 (y.alloc y.size _) i);(have ad:w.heap.size+1<K.heap.size:=by have:=i.size;simp at this;omega);clear i;unfold knV;dsimp only;go_wp2_with(refine zN rfl 52 _ _ rfl rfl rfl Q rfl Tryz.szF (by simp[Value.oneCell']) ?_;intro w3 T X au);obtain⟨⟨r0,r1,r2,r3,r4⟩,-⟩:=zDU T;refine bodyPost_ret (v:=knV true) (by unfold knV;simp[results,results178,go_sem,r0,r1,r2,r3,r4];try rfl) rfl ⟨_,rfl,?_,zAm R X (by omega) (by omega)⟩;rw[HG.out,L.out,ho2];exact zNe _ _ _
  have a1:(a.op==(1:Int))=false:=by simp;omega
  have C:(a.op==(2:Int))=false:=by simp;omega
  have HN:=hid (show zEe a= .mk 4 ⟨#[]⟩ 0 0 [a] from if_neg z);clear z;go_wp2_with(refine zN rfl 52 _ _ rfl rfl rfl (((O).alloc _).alloc _) rfl Tryz.szF (by simp[Value.oneCell']) ?_;intro K i C ar);obtain⟨⟨r0,r1,r2,r3,r4⟩,-⟩:=zDU i;have hK:zA (λb=>(Z b\/w.heap.size<=b)/\b≠w.heap.size+1) N K:=(((zA.refl _ _).alloc _).alloc _).trans (C.mono (λ_ _ h=>h.2))
  have ag:K.heap[N.heap.size+1]? =some (.cells #[.int .i64 a.op,.string a.name,.int .i64 a.cmp,.int .i64 a.num,.slice A1 a.kids.length t] 52 (0,0)):=by
   rw[C.block _ (by simp) (by omega)];have:=heap_alloc_new (N.alloc (.cells #[.int .i64 a.op,.string a.name,.int .i64 a.cmp,.int .i64 a.num,.slice A1 a.kids.length t] 52)) (.cells #[.int .i64 a.op,.string a.name,.int .i64 a.cmp,.int .i64 a.num,.slice A1 a.kids.length t] 52);simpa using this
  have ac:Bw w K:=zAm ((y.alloc y.size _).alloc (by simp;omega) _) C (by omega) (by simp;omega);refine bodyPost_ret (v:= .agg #[.int .i64 4,.string ⟨#[]⟩,.int .i64 0,.int .i64 0,.slice (some ⟨N.heap.size+1,0,none⟩) 1 1]) (by simp[results,results178,go_sem,r0,r1,r2,r3,r4];try rfl) rfl ?_;refine⟨_,rfl,?_,ac⟩;rw[HG.out,HN.out]
  have Y:=FmR.mono (Z':=λb=>(Z b\/w.heap.size<=b)/\b≠w.heap.size+1) (λb hb=>by
   obtain⟨h1,h2⟩:=hb;rcases h1 with⟨h1,B⟩|h1
   ·exact⟨Or.inl h1,by omega⟩
   simp at h1;exact⟨Or.inr (by omega),by omega⟩) _ _ (FmR.live _ _ ai)
  have al:=FmR.keep hK _ _ Y;have ao:=FmR.mono (Z':=λb=>Z b\/w.heap.size<=b) (λb hb=>hb.1) _ _ al;unfold FmR;refine⟨by simp[I64],by decide,by simp[I64],by simp[I64],_,1,rfl,Nat.le_refl _,by decide,by simp,?_⟩;unfold zAD;refine⟨_,_,_,rfl,Or.inr (by omega),λj u hu=> ?_,ao,by unfold zAD;trivial⟩;rw[cell_of_row K _ _ _ _ _ ag];simpa using hu
 have aj:(f.op==(4:Int))=false:=by simp[P]
 by_cases ab:f.op=5\/f.op=6
 ·by_cases h5:f.op=5
  ·exact zNs nm x ds m IH f hm hM Z A s w J G h5
  exact zOo nm x ds m IH f hm hM Z A s w J G (by omega)
 have az:(f.op==(5:Int))=false:=by simp;omega
 have a0:(f.op==(6:Int))=false:=by simp;omega
 have c:zZ nm x f=f:=by rw[q.out,if_neg B,if_neg P,if_neg ab]
 have HK:=hid (show ∀I,Bw w I->zEB Z (zZ nm x f) w (.returned (.agg #[.int .i64 f.op,.string f.name,.int .i64 f.cmp,.int .i64 f.num,.slice A f.kids.length s])) I from λI hw=>⟨_,rfl,by rw[c];exact FmR.mono (λb hb=>Or.inl hb) _ _ (FmR.keep (.of_below hw) _ _ J),hw⟩);clear q B P ab c J k D G d o h0 IH;go_enter func178,ntmps178
 go_wp2;refine bodyPost_ret (v:= .agg #[.int .i64 f.op,.string f.name,.int .i64 f.cmp,.int .i64 f.num,.slice A f.kids.length s]) (by simp[results,results178,go_sem];try rfl) rfl (HK _ (by exact blw))
theorem zVw{hi:Int}:∀{l:List Int}{lo:Int},zAE lo hi l->l.Nodup
 |[],_,_=>by simp
 |c::r,lo,h=>by
  rw[List.nodup_cons];exact⟨λa=>by have:=zBZ h.2.2 c a;omega,zVw h.2.2⟩
theorem zUu(f:Fm)(x:zE):(zR f x).Nodup :=by
 unfold zR;rw[List.nodup_cons];have:=zHz f x;exact⟨λa=>by have:=zBZ this _ a;omega,zVw this⟩
theorem zVc{n lo hi v:Int}(h:v∈l):v∈zBx l n lo hi:=by
 unfold zBx;split
 ·exact h
 exact(zS4 _ _ _).2 (Or.inr h)
theorem zWR{n lo hi:Int}(a:lo<=n)(b:n<=hi):n∈zBx l n lo hi:=by
 unfold zBx;rw[if_neg (by omega)];exact(zS4 _ _ _).2 (Or.inl rfl)
mutual
theorem zUr{nm:ByteArray}{lo hi:Int}(g:hi<=1000000):∀(f:Fm)(l:List Int)(v:Int),(v∈l\/((∃n∈zAX nm f,v=n\/v=n+1)/\lo<=v/\v<=hi))->v∈zDV nm lo hi f l
 | .mk op n cm nu kids,l,v,h=>by
  rw[zDV];refine zVY g kids _ v ?_;rcases h with h|⟨⟨m,a,e⟩,b,c⟩
  ·left;split
   ·exact zVc (zVc h)
   exact h
  rw[zAX]at a;rcases List.mem_append.1 a with a|a
  ·left;split at a
   ·rename_i hc;rw[if_pos hc];simp only[List.mem_singleton]at a;subst a;rcases e with e|e
    ·subst e;exact zVc (zWR b c)
    (have d:zCi m=v:=by unfold zCi;rw[if_neg (by omega)];omega);rw[<-d]at b c⊢;exact zWR b c
   cases a
  exact Or.inr ⟨⟨m,a,e⟩,b,c⟩
theorem zVY{nm:ByteArray}{lo hi:Int}(b:hi<=1000000):∀(r:List Fm)(l:List Int)(v:Int),(v∈l\/((∃n∈zAU nm r,v=n\/v=n+1)/\lo<=v/\v<=hi))->v∈zBC nm lo hi r l
 |[],l,v,h=>by
  rw[zBC];rcases h with h|⟨⟨m,a,_⟩,_⟩
  ·exact h
  rw[zAU]at a;cases a
 |k::r,l,v,h=>by
  rw[zBC];refine zVY b r _ v ?_;rcases h with h|⟨⟨m,a,e⟩,c,d⟩
  ·exact Or.inl (zUr b k l v (Or.inl h))
  rw[zAU]at a;rcases List.mem_append.1 a with a|a
  ·exact Or.inl (zUr b k l v (Or.inr ⟨⟨m,a,e⟩,c,d⟩))
  exact Or.inr ⟨⟨m,a,e⟩,c,d⟩
end
theorem zWc(f:Fm)(x:zE)(b:x.hi<=1000000):(zR f x).length <=(zDW f x).length :=by
 refine zFu _ _ (zUu f x) λv a=> ?_
 unfold zDW;refine zUr b f _ v ?_;unfold zR at a;rcases List.mem_cons.1 a with rfl|a
 ·exact Or.inl (by simp)
 rw[zFi,List.mem_filter,List.mem_flatMap]at a;obtain⟨⟨n,c,e⟩,d⟩:=a;simp only[List.mem_cons,List.not_mem_nil,or_false]at e;simp only[Bool.and_eq_true,decide_eq_true_eq]at d;exact Or.inr ⟨⟨n,c,e⟩,by omega,by omega⟩
section given
variable {nm m:ByteArray} {v t:Int}
theorem zWS{b:Bool}(h:t∈zAX m (kn b)):False:=by
 cases b<;>simp[kn,zG9,zAX,zAU]at h
theorem zWl{k:Fm}(h:t∈zAX m (zEe k)):t∈zAX m k:=by
 unfold zEe at h;split at h
 ·exact(zWS h).elim
 rw[zAX]at h;simpa[zAU]using h
theorem zWd{op:Int}(c:op=5\/op=6){ks:List Fm}(h:t∈zAX m (zC8 op ks)):∃k∈ks,t∈zAX m k:=by
 unfold zC8 at h;split at h
 ·rename_i k a;exact⟨k,List.mem_of_find?_eq_some a,h⟩
 split at h
 ·rw[zAX,if_neg (by unfold zDO;split<;>omega)]at h;simp[zAU]at h
 ·rename_i k a;exact⟨k,zGa (op:=op) (by rw[a];simp),h⟩
 rw[zAX,if_neg (by omega)]at h;simp only[List.nil_append]at h;obtain⟨k,a,b⟩:=(zLB m).1 h;exact⟨k,zGa a,b⟩
mutual
theorem zUm:∀f:Fm,t∈zAX m (zZ nm v f)->t∈zAX m f
 | .mk op name cm nu kids,h=>by
  have a:∀k,k∈zAT nm v kids->t∈zAX m k->t∈zAU m kids:=λk=>zVB kids
  rw[zZ]at h;split at h
  ·split at h
   ·exact(zWS h).elim
   exact h
  split at h
  ·split at h
   ·rename_i k r b;rw[zAX];exact List.mem_append_right _ (a k (by rw[b];exact List.mem_cons_self ..) (zWl h))
   exact h
  split at h
  ·rename_i h56;obtain⟨k,b,c⟩:=zWd h56 h;rw[zAX];exact List.mem_append_right _ (a k b c)
  exact h
theorem zVB:∀(l:List Fm){k:Fm},k∈zAT nm v l->t∈zAX m k->t∈zAU m l
 |[],_,h,_=>absurd h (by simp[zAT])
 |a::r,k,h,hn=>by
  rw[zAT]at h;rw[zAU];rcases List.mem_cons.1 h with rfl|h
  ·exact List.mem_append_left _ (zUm a hn)
  exact List.mem_append_right _ (zVB r h hn)
end
end given
def zXS(f:Fm):List zE->Nat
 |[]=>1
 |x::r=>(zR f x).length *zXS f r
theorem zUn(f:Fm)(x:zE):1<=(zR f x).length :=by unfold zR;simp
theorem zVx(f:Fm):∀r:List zE,1<=zXS f r
 |[]=>Nat.le_refl _
 |x::r=>Nat.mul_pos (zUn f x) (zVx f r)
theorem zW0{f f':Fm}(h:∀m t,t∈zAX m f'->t∈zAX m f)(x:zE):(zR f' x).length <=(zR f x).length :=by
 refine zFu _ _ (zUu f' x) λv a=> ?_
 unfold zR at a⊢;rcases List.mem_cons.1 a with rfl|a
 ·simp
 refine List.mem_cons_of_mem _ ?_;rw[zFi,List.mem_filter,List.mem_flatMap]at a⊢;obtain⟨⟨n,b,e⟩,c⟩:=a;exact⟨⟨n,h _ _ b,e⟩,c⟩
theorem zUk{f f':Fm}(h:∀m t,t∈zAX m f'->t∈zAX m f):∀r:List zE,zXS f' r<=zXS f r
 |[]=>Nat.le_refl _
 |x::r=>Nat.mul_le_mul (zW0 h x) (zUk h r)
theorem zVk{f:Fm}{n:Int}:∀(r:List zE)(a:Int),(∀x∈r,x.hi<=1000000)->1<=a->zEF f n r a<=n->a*(zXS f r:Int)<=n
 |[],a,_,_,h=>by simpa[zEF,zXS]using h
 |x::r,a,hh,h1,h=>by
  rw[zEF]at h;split at h
  ·omega
  have hl:=zWc f x (hh x (by simp));have c:=zUn f x
  have:=zVk r _ (λy b=>hh y (by simp[b])) (by
   have:=Int.mul_le_mul h1 (show(1:Int)<=(zDW f x).length by omega) (by decide) (by omega)
   omega) h
  refine Int.le_trans ?_ this;rw[zXS,Int.natCast_mul,<-Int.mul_assoc];refine Int.mul_le_mul_of_nonneg_right ?_ (by omega);exact Int.mul_le_mul_of_nonneg_left (by omega) (by omega)
structure Room (st:GSt):Prop where
 w:WSt st
 full:st.full=false
theorem zVC{st:GSt}(h:Room st)(b:Bool){full:Bool}(d:full=false):Room (zBw b full st).2/\inn (zBw b full st).2.all <=inn st.all:=by
 obtain⟨a,-,c⟩:=zKr h.w b full;exact⟨⟨a,d⟩,c⟩
theorem zVy{f:Int->GSt->Int × GSt}{C:Nat}(a:∀v st,Room st->inn st.all+C<=3998->Room (f v st).2/\inn (f v st).2.all +1<=inn st.all+C):∀(l:List Int)(st:GSt),Room st->inn st.all+l.length*C<=3998->
  Room (zW f l st).2/\inn (zW f l st).2.all +l.length<=inn st.all+l.length*C
 |[],st,h,_=>⟨h,by simp[zW]⟩
 |v::l,st,h,hC=>by
  have e:(v::l).length *C=l.length*C+C:=by rw[List.length_cons,Nat.add_mul,Nat.one_mul]
  rw[e]at hC⊢;obtain⟨b,d⟩:=a v st h (by omega);obtain⟨c,g⟩:=zVy a l _ b (by omega);unfold zW;exact⟨c,by simp only[List.length_cons];omega⟩
theorem zWm{all:List zB}{s k:Int}:zAb all i [s] [k]=(k,all):=by
 unfold zAb;simp[zX]
theorem zVz:∀(rest:List zE)(i:Nat)(f:Fm)(st:GSt),Room st->inn st.all+zXS f rest<=3998->Room (zz rest i f st).2/\inn (zz rest i f st).2.all +1<=inn st.all+zXS f rest
 |[],i,f,st,h,hC=>by
  have hl:=h.w.tab.len;simp only[zXS]at hC⊢;unfold zz;split
  ·obtain⟨a,b⟩:=zVC h (decide (f.op=1)) h.full;exact⟨a,by omega⟩
  obtain⟨a,b⟩:=zVC h false (full:=st.full||decide (4000<st.all.length)) (by rw[h.full,decide_eq_false (by omega)];rfl);exact⟨a,by omega⟩
 |x::rest,i,f,st,h,hC=>by
  have hl:=h.w.tab.len;have c:=zVx f (x::rest);unfold zz;split
  ·obtain⟨a,b⟩:=zVC h (decide (f.op=1)) h.full;exact⟨a,by omega⟩
  rw[if_neg (by rw[h.full,decide_eq_false (by omega)];decide)];split
  ·exact⟨h,by show inn st.all+1<=_;omega⟩
  rw[zXS]at hC⊢
  obtain⟨D,I⟩:=zVy (f:=λv st=>zz rest (i+1) (zZ x.name v f) st) (C:=zXS f rest) (λv st d F=>by
   have G:=zUk (f:=f) (f':=zZ x.name v f) (λm t=>zUm f) rest;obtain⟨a,b⟩:=zVz rest (i+1) (zZ x.name v f) st d (by omega)
   exact⟨a,by omega⟩) (zR f x) st h hC
  have j:=zC4 (f:=λv st=>zz rest (i+1) (zZ x.name v f) st) (zR f x) st;obtain⟨o,E,-⟩:=zKs (f:=λv st=>zz rest (i+1) (zZ x.name v f) st) (B:=4000+rest.length) (λv st=>zGb rest _ _ st) (λv st d=>zKt rest _ _ st d) (zR f x) st h.w;obtain⟨z,A,H⟩:=zPU o.tab (i:=i) (ss:=zR f x) E (zIA (by simp[zR]));have g:=D.full;generalize zW (λv st=>zz rest (i+1) (zZ x.name v f) st) (zR f x) st=r at*;obtain⟨kids,e⟩:=r;simp only at*;refine⟨⟨⟨z,λp c=> ?_⟩,g⟩,?_⟩
  ·rcases zEw c with c|c
   ·exact(o.done p c).pre (zFk _ _ _ _)
   subst c;exact A
  have y:=zUn f x;by_cases n:(zR f x).length =1
  ·have q:(zAb e.all i (zR f x) kids).2=e.all:=by
    obtain⟨s,d⟩:=List.length_eq_one_iff.1 n;obtain⟨k,u⟩:=List.length_eq_one_iff.1 (j.trans n);rw[d,u,zWm]
   rw[q];omega
  omega
theorem zWn(ds:List zE)(g:List zB)(i:Int):(zAr ds g i).length =(zBm ds g i).length :=by unfold zAr;rw[List.length_map]
section cells
variable {ds:List zE} {L:Nat->List Int} {a b g:List zB} {p q:List Int->Bool} {k:Nat} {x:Int}
def zTX(ds:List zE)(L:Nat->List Int)(p:List Int->Bool):Prop:=
 ∀c(i:Nat)(v:Int),Fit ds c->i<ds.length->(ds.getD i zAP).lo <v->v<=(ds.getD i zAP).hi ->v∉L i->p (c.set i (v-1))=p (c.set i v)
theorem zTX.congr(h:zTX ds L p)(he:∀c,Fit ds c->p c=q c):zTX ds L q:=λc i v a f d b e=>by
 rw[<-he _ (a.set_ (by omega) (by omega)),<-he _ (a.set_ (by omega) b)];exact h c i v a f d b e
theorem zTX.not(h:zTX ds L p):zTX ds L (λc=> !p c):=λc i v e f a b d=>by show(!p _)= !p _;rw[h c i v e f a b d]
theorem zTX.and(h:zTX ds L p)(g:zTX ds L q):zTX ds L (λc=>p c&&q c):=λc i v e f a b d=>by show(p _&&q _)=(p _&&q _);rw[h c i v e f a b d,g c i v e f a b d]
theorem zTX.const(t:Bool):zTX ds L (λ_=>t):=λ_ _ _ _ _ _ _ _=>rfl
def zX9(k:Nat)(pre c:List Int):List Int:=pre.take k++c.drop k
theorem zXe{n:Nat}(b:pre.length=n)(d:c.length=n)(e:k<=n)(j:Nat):(zX9 k pre c).getD j 0=if j<k then pre.getD j 0 else c.getD j 0:=by
 unfold zX9;rw[List.getD_eq_getElem?_getD];by_cases a:j<k
 ·rw[if_pos a,List.getElem?_append_left (by rw[List.length_take];omega),List.getElem?_take_of_lt a,List.getD_eq_getElem?_getD]
 rw[if_neg a,List.getElem?_append_right (by rw[List.length_take];omega),List.length_take,List.getElem?_drop,List.getD_eq_getElem?_getD];congr 2;omega
theorem zXh(a:Fit ds pre)(b:Fit ds c)(e:k<=ds.length):Fit ds (zX9 k pre c):=by
 refine⟨by unfold zX9;rw[List.length_append,List.length_take,List.length_drop,a.1,b.1];omega,λj d=> ?_⟩;rw[zXe a.1 b.1 e];split
 ·exact a.2 j d
 exact b.2 j d
structure AtN (ds:List zE) (g:List zB) (k:Nat) (x:Int):Prop where
 rng:Rng g x
 low:(k:Int)<=zU ds (nAt g x)
 from_:∃pre,Fit ds pre/\∀d,Fit ds d->(∀j,j<k->d.getD j 0=pre.getD j 0)->S ds g 0 d=S ds g x d
theorem AtN.cuts(A:zDt ds)(n:Good ds g)(G:zTX ds L (S ds g 0))(h:AtN ds g k x)(w:(nAt g x).kids ≠[]):∀v∈(nAt g x).cuts,v∈L (nAt g x).fact.toNat :=by
 intro v D;have I:=n.inner h.rng w;have o:=zBZ I.asc v D;have J:=I.f0;have K:=I.f1;have d:=h.low;unfold zU at d;rw[if_neg w]at d;by_cases B:v∈L (nAt g x).fact.toNat
 ·exact B
 exfalso;refine(n.cut_iff A (λa b ha hb _ _ he=>n.uniq A ha hb he) h.rng w (Nat.le_refl _) o.1 o.2).1 D λc t=> ?_
 obtain⟨pre,C,f⟩:=h.from_;have H:(nAt g x).fact.toNat <ds.length:=by omega
 have q:=zXh (k:=k) C t (by omega);have s:=q.1;have e:=zXe (k:=k) C.1 t.1 (by omega);have y:(ds.getD (nAt g x).fact.toNat zAP).lo <v:=o.1;have i:v<=(ds.getD (nAt g x).fact.toNat zAP).hi :=o.2
 have m:∀u,(ds.getD (nAt g x).fact.toNat zAP).lo <=u->u<=(ds.getD (nAt g x).fact.toNat zAP).hi ->S ds g x (c.set (nAt g x).fact.toNat u)=S ds g 0 ((zX9 k pre c).set (nAt g x).fact.toNat u):=λu E F=>by
  rw[f _ (q.set_ E F) (λj z=>by rw[zDu,if_neg (by omega),e,if_pos z])];refine n.S_indep _ _ (Nat.le_refl _) h.rng k _ _ (λ_=>d) (λj z=> ?_);rw[zDu,zDu,t.1,s];split
  ·rfl
  rw[e,if_neg (by omega)]
 rw[m _ (by omega) (by omega),m _ (by omega) i];exact G _ _ _ q H y i B
theorem AtN.step(b:Good ds g)(h:AtN ds g k x)(t:k<ds.length){v:Int}(f:(ds.getD k zAP).lo <=v)(i:v<=(ds.getD k zAP).hi):AtN ds g (k+1) (zAQ g x k v):=by
 obtain⟨s,u⟩:=zDy b (v:=v) h.rng h.low (by omega);obtain⟨pre,e,a⟩:=h.from_;refine⟨s,by omega,pre.set k v,e.set_ f i,λd m c=> ?_⟩;have o:=e.1;have q:d.getD k 0=v:=by rw[c k (by omega),zDu,if_pos ⟨rfl,by omega⟩]
 rw[zRH b h.rng d (by omega) (λ_ _=>by rw[Int.toNat_natCast,q])];exact a d m λj n=>by rw[c j (by omega),zDu,if_neg (by omega)]
theorem zWA{i v:Int}(h:i≠zU ds (nAt g x)):zAQ g x i v=x:=by
 unfold zAQ;by_cases a:(nAt g x).kids ≠[]/\(nAt g x).fact =i
 ·exact absurd (by unfold zU;rw[if_neg a.1,a.2]) h
 rw[if_neg a]
def zXR(ds:List zE)(L:Nat->List Int)(a b:List zB):Nat->List (Int × Int)
 |0=>[(0,0)]
 |k+1=>(zXR ds L a b k).flatMap λp=>((ds.getD k zAP).lo ::L k).map λv=>(zAQ a p.1 k v,zAQ b p.2 k v)
def zXT(ds:List zE)(L:Nat->List Int)(a b:List zB):Nat->List (Int × Int)
 |0=>[(0,0)]
 |k+1=>if L k=[]then zXT ds L a b k else zXT ds L a b k++zXR ds L a b (k+1)
def zXV(L:Nat->List Int):Nat->Nat
 |0=>1
 |k+1=>zXV L k*((L k).length +1)
theorem zWT{α β:Type}{n:Nat}{f:α->List β}(a:∀x,(f x).length =n):∀l:List α,(l.flatMap f).length =l.length*n
 |[]=>by simp
 |x::r=>by rw[List.flatMap_cons,List.length_append,a,zWT a r,List.length_cons,Nat.add_mul];omega
theorem zVl:∀k,(zXR ds L a b k).length =zXV L k
 |0=>rfl
 |k+1=>by rw[zXR,zWT (n:=(L k).length +1) (λp=>by simp),zVl k,zXV]
theorem zWB:∀k,(zXT ds L a b k).length +1<=2*zXV L k
 |0=>by simp[zXT,zXV]
 |k+1=>by
  have h:=zWB k;unfold zXT zXV;split
  ·rename_i he;rw[he];simpa using h
  rename_i he;rw[List.length_append,zVl,zXV];have c:1<=(L k).length :=by cases hL:L k with|nil=>exact absurd hL he|cons=>simp
  have d:zXV L k*2<=zXV L k*((L k).length +1):=Nat.mul_le_mul_left _ (by omega);omega
theorem zUs{p:Int × Int}(h:p∈zXT ds L a b k):∀j,p∈zXT ds L a b (k+j)
 |0=>h
 |j+1=>by
  have:=zUs h j;rw[<-Nat.add_assoc];unfold zXT;split
  ·exact this
  exact List.mem_append_left _ this
theorem zVD{p:Int × Int}:∀{k},p∈zXT ds L a b k->∃j,j<=k/\p∈zXR ds L a b j
 |0,h=>⟨0,Nat.le_refl _,h⟩
 |k+1,h=>by
  unfold zXT at h
  have ih:p∈zXT ds L a b k->∃j,j<=k+1/\p∈zXR ds L a b j:=λh=>by
   obtain⟨j,d,c⟩:=zVD h;exact⟨j,by omega,c⟩
  split at h
  ·exact ih h
  rcases List.mem_append.1 h with h|h
  ·exact ih h
  exact⟨k+1,Nat.le_refl _,h⟩
section two
variable (hl:zDt ds) (ha:Good ds a) (hb:Good ds b) (ra:Rng a 0) (rb:Rng b 0) (hL:∀i,i<ds.length->zAE (ds.getD i zAP).lo (ds.getD i zAP).hi (L i))
include hl ha hb ra rb hL
theorem zUl{p:Int × Int}:∀k,k<=ds.length->p∈zXR ds L a b k->AtN ds a k p.1/\AtN ds b k p.2
 |0,_,h=>by
  simp only[zXR,List.mem_singleton]at h;subst h;exact⟨⟨ra,(zEk ha ra).1,_,hl.least,λ_ _ _=>rfl⟩,⟨rb,(zEk hb rb).1,_,hl.least,λ_ _ _=>rfl⟩⟩
 |k+1,hk,h=>by
  rw[zXR,List.mem_flatMap]at h;obtain⟨q,g,h⟩:=h;rw[List.mem_map]at h;obtain⟨v,d,rfl⟩:=h;obtain⟨e,f⟩:=zUl k (by omega) g
  have c:(ds.getD k zAP).lo <=v/\v<=(ds.getD k zAP).hi :=by
   rcases List.mem_cons.1 d with rfl|d
   ·exact⟨Int.le_refl _,hl k (by omega)⟩
   have:=zBZ (hL k (by omega)) v d;exact⟨by omega,this.2⟩
  exact⟨e.step ha (by omega) c.1 c.2,f.step hb (by omega) c.1 c.2⟩
theorem zWC{p:Int × Int}{j:Nat}(c:p∈zXR ds L a b j):∀d,j+d<=ds.length->((j+d:Nat):Int)<=zU ds (nAt a p.1)->((j+d:Nat):Int)<=zU ds (nAt b p.2)->p∈zXR ds L a b (j+d)
 |0,_,_,_=>c
 |d+1,h1,h2,h3=>by
  have ih:=zWC c d (by omega) (by omega) (by omega);rw[<-Nat.add_assoc,zXR,List.mem_flatMap];refine⟨p,ih,List.mem_map.2 ⟨(ds.getD (j+d) zAP).lo,by simp,?_⟩⟩;rw[zWA (ds:=ds) (by omega),zWA (ds:=ds) (by omega)]
variable (Ta:zTX ds L (S ds a 0)) (Tb:zTX ds L (S ds b 0))
include Ta Tb
theorem zVE{p:Int × Int}:∀k,k<=ds.length->p∈zXR ds L a b k->p∈zXT ds L a b k
 |0,_,h=>h
 |k+1,c,h=>by
  unfold zXT;split
  ·rename_i he;rw[zXR,List.mem_flatMap]at h;obtain⟨q,e,h⟩:=h;rw[he,List.map_singleton,List.mem_singleton]at h;obtain⟨f,i⟩:=zUl hl ha hb ra rb hL k (by omega) e
   have d:∀{g:List zB}{x:Int},Good ds g->zTX ds L (S ds g 0)->AtN ds g k x->∀v,zAQ g x k v=x:=λ{g x} hg hT hA v=>by
    unfold zAQ;by_cases c:(nAt g x).kids ≠[]/\(nAt g x).fact =(k:Int)
    ·have I:=hg.inner hA.rng c.1;have:=hA.cuts hl hg hT c.1;rw[c.2,Int.toNat_natCast,he]at this;exact absurd (List.eq_nil_iff_forall_not_mem.2 λv j=>by simpa using this v j) I.cuts
    rw[if_neg c]
   rw[d ha Ta f,d hb Tb i]at h;subst h;exact zVE k (by omega) e
  exact List.mem_append_right _ h
theorem zWU:Closed ds a b (zXT ds L a b ds.length):=λp t=>by
 obtain⟨j,B,k⟩:=zVD t;obtain⟨n,o⟩:=zUl hl ha hb ra rb hL j B k;refine⟨n.rng,o.rng,λv=> ?_⟩;have H:=zEk ha n.rng;have J:=zEk hb o.rng;have K:=n.low;have M:=o.low;by_cases E:min (zU ds (nAt a p.1)) (zU ds (nAt b p.2))=ds.length
 ·have m:∀{g:List zB}{x:Int},Good ds g->Rng g x->zU ds (nAt g x)=ds.length->zAQ g x ds.length v=x:=λ{g x} hg hr he=>by
   unfold zAQ;by_cases e:(nAt g x).kids ≠[]/\(nAt g x).fact =(ds.length:Int)
   ·have I:=hg.inner hr e.1;have:=I.f1;omega
   rw[if_neg e]
  rw[E,m ha n.rng (by omega),m hb o.rng (by omega)];exact t
 obtain⟨i,A⟩:∃i:Nat,min (zU ds (nAt a p.1)) (zU ds (nAt b p.2))=i:=⟨(min (zU ds (nAt a p.1)) (zU ds (nAt b p.2))).toNat,by omega⟩;rw[A];have s:i<ds.length:=by omega
 have h:p∈zXR ds L a b i:=by
  have:=zWC hl ha hb ra rb hL k (i-j) (by omega) (by omega) (by omega);rwa[show j+(i-j)=i by omega]at this
 obtain⟨w,z⟩:=zUl hl ha hb ra rb hL i (by omega) h;have c:=hL i s
 have u:∀{g:List zB}{x:Int},Good ds g->zTX ds L (S ds g 0)->AtN ds g i x->zAQ g x i v=zAQ g x i (zXM (ds.getD i zAP).lo (L i) (nx (L i) v)):=λ{g x} hg hT hA=>by
  unfold zAQ;by_cases e:(nAt g x).kids ≠[]/\(nAt g x).fact =(i:Int)
  ·rw[if_pos e,if_pos e];have I:=hg.inner hA.rng e.1;have q:=hA.cuts hl hg hT e.1;have d:=I.asc;rw[e.2]at q d;rw[Int.toNat_natCast]at q;have d:zAE (ds.getD i zAP).lo (ds.getD i zAP).hi (nAt g x).cuts :=d;congr 1;by_cases F:(ds.getD i zAP).lo <=v
   ·exact(zPL (zE4 c F) λy G f=>zEv c (q y G) f).symm
   rw[zNK d (by omega),zNK c (by omega)];simp only[zXM,if_true];rw[zNK d (Int.le_refl _)]
  rw[if_neg e,if_neg e]
 rw[u ha Ta w,u hb Tb z];have C:=zEr (L i) v
 have D:(zAQ a p.1 i (zXM (ds.getD i zAP).lo (L i) (nx (L i) v)),zAQ b p.2 i (zXM (ds.getD i zAP).lo (L i) (nx (L i) v)))∈zXR ds L a b (i+1):=by
  rw[zXR,List.mem_flatMap];refine⟨p,h,List.mem_map.2 ⟨_,?_,rfl⟩⟩;unfold zXM;split
  ·simp
  refine List.mem_cons_of_mem _ ?_;have f:nx (L i) v-1<(L i).length :=by omega
  rw[List.getD_eq_getElem?_getD,List.getElem?_eq_getElem f];exact List.getElem_mem f
 have:=zUs (zVE hl ha hb ra rb hL Ta Tb (i+1) (by omega) D) (ds.length-(i+1));rwa[show i+1+(ds.length-(i+1))=ds.length by omega]at this
end two
theorem zWo(e:∀i,i<ds.length->zAE (ds.getD i zAP).lo (ds.getD i zAP).hi (L i))(f:zXV L ds.length<=2000)(c:zBP ds a)(d:zBP ds b)(Ta:zTX ds L (S ds a 0))(Tb:zTX ds L (S ds b 0)):(zGc ds a b).2=0:=by
 have hl:=zGU c.dom;refine zXE c d (zWU hl c.good d.good c.rng d.rng e Ta Tb) ?_ ?_
 ·have:=zUs (ds:=ds) (L:=L) (a:=a) (b:=b) (k:=0) (p:=((0:Int),(0:Int))) (by simp[zXT]) ds.length;rwa[Nat.zero_add]at this
 have:=zWB (ds:=ds) (L:=L) (a:=a) (b:=b) ds.length;omega
end cells
def zVF(f:Fm)(x:zE):List Int:=zEJ (((zAX x.name f).flatMap λn=>[n,n+1]).filter λn=>decide (x.lo<n)&&decide (n<=x.hi))
theorem zXA(f:Fm)(x:zE):zAE x.lo x.hi (zVF f x):=zHz f x
theorem zWe(f:Fm)(x:zE):zR f x=x.lo::zVF f x:=rfl
theorem zWV{ds:List zE}(f:Fm):∀k,k<=ds.length->zXV (λi=>zVF f (ds.getD i zAP)) k*zXS f (ds.drop k)=zXS f ds
 |0,_=>by simp[zXV]
 |k+1,hk=>by
  rw[<-zWV (ds:=ds) f k (by omega),List.drop_eq_getElem_cons (by omega:k<ds.length),zXS,zXV,zWe];have:ds.getD k zAP=ds[k]'(by omega):=by simp[List.getD_eq_getElem?_getD,List.getElem?_eq_getElem (by omega:k<ds.length)]
  rw[this,List.length_cons,Nat.mul_assoc]
theorem zXB(f:Fm):zXV (λi=>zVF f (ds.getD i zAP)) ds.length=zXS f ds:=by
 have:=zWV (ds:=ds) f ds.length (Nat.le_refl _);rwa[List.drop_length,zXS,Nat.mul_one]at this
section side
variable {ds:List zE} {c c':List Int}
mutual
theorem zWW:∀f,okF ds f->(∀nm n,0<=zBD ds nm->n∈zAX nm f->(c.getD (zBD ds nm).toNat 0<n↔c'.getD (zBD ds nm).toNat 0<n)/\(c.getD (zBD ds nm).toNat 0<n+1↔c'.getD (zBD ds nm).toNat 0<n+1))->evF ds c f=evF ds c' f
 | .mk op name cm nu kids,hok,ht=>by
  obtain⟨o,e,j⟩:=zFm hok;have b:=zWD kids e (λnm n h m=>ht nm n h (by rw[zAX];exact List.mem_append_right _ m));rw[zNd,zNd];simp only[Fm.op,Fm.name,Fm.cmp,Fm.num,Fm.kids,zHv,zHu];by_cases d:op=3
  ·rw[if_pos d,if_pos d];have:=ht name nu (j d) (by rw[zAX,if_pos ⟨d,rfl⟩];simp);exact zR6 this.1 this.2
  rw[if_neg d,if_neg d]
  have g:kids.any (evF ds c)=kids.any (evF ds c'):=by
   rw[Bool.eq_iff_iff,List.any_eq_true,List.any_eq_true];constructor
   ·rintro⟨k,a,h⟩;exact⟨k,a,by rwa[<-b k a]⟩
   rintro⟨k,a,h⟩;exact⟨k,a,by rwa[b k a]⟩
  have i:kids.all (evF ds c)=kids.all (evF ds c'):=by
   rw[Bool.eq_iff_iff,List.all_eq_true,List.all_eq_true];constructor
   ·intro h k a;rw[<-b k a];exact h k a
   intro h k a;rw[b k a];exact h k a
  rw[g,i]
theorem zWD:∀l,zEC ds l->(∀nm n,0<=zBD ds nm->n∈zAU nm l->(c.getD (zBD ds nm).toNat 0<n↔c'.getD (zBD ds nm).toNat 0<n)/\(c.getD (zBD ds nm).toNat 0<n+1↔c'.getD (zBD ds nm).toNat 0<n+1))->∀k∈l,evF ds c k=evF ds c' k
 |[],_,_,k,hk=>absurd hk (by simp)
 |f::r,hok,ht,k,hk=>by
  rw[zCk]at hok;rcases List.mem_cons.1 hk with h|h
  ·rw[h];exact zWW f hok.1 (λnm n h a=>ht nm n h (by rw[zAU];exact List.mem_append_left _ a))
  exact zWD r hok.2 (λnm n h a=>ht nm n h (by rw[zAU];exact List.mem_append_right _ a)) k h
end
end side
theorem zWp{f F:Fm}(g:okF ds f)(hF:∀nm n,n∈zAX nm f->n∈zAX nm F):zTX ds (λi=>zVF F (ds.getD i zAP)) (λc=>evF ds c f):=λc i v o y j k m=>by
 refine zWW f g λnm n x q=> ?_
 rw[zDu,zDu,o.1];by_cases b:i=(zBD ds nm).toNat /\(zBD ds nm).toNat <ds.length
 ·rw[if_pos b,if_pos b];have d:(ds.getD i zAP).name =nm:=zNi (by omega)
  have a:∀u,u=n\/u=n+1->v≠u:=λu s e=>by
   subst e;refine m ?_;show v∈zVF F _;unfold zVF;rw[zFi,List.mem_filter,List.mem_flatMap];refine⟨⟨n,by rw[d];exact hF _ _ q,by simp;exact s⟩,?_⟩;rw[Bool.and_eq_true,decide_eq_true_eq,decide_eq_true_eq];exact⟨j,k⟩
  have t:=a n (.inl rfl);have w:=a (n+1) (.inr rfl);constructor<;>constructor<;>intro h<;>omega
 rw[if_neg b,if_neg b];exact⟨Iff.rfl,Iff.rfl⟩
theorem zW1(l:List ByteArray):(zTV l).Nodup /\∀x∈zTV l,x∈l:=by
 have go:∀(l c:List ByteArray),c.Nodup->(l.foldl (λc n=>if c.any (λk=>decide (k=n))=true then c else c++[n]) c).Nodup /\∀x∈l.foldl (λc n=>if c.any (λk=>decide (k=n))=true then c else c++[n]) c,x∈c\/x∈l:=by
  intro l
  induction l with
  |nil=>intro c h;exact⟨h,λx f=> .inl f⟩
  |cons n r ih=>
  intro c h;rw[List.foldl_cons];by_cases j:c.any (λk=>decide (k=n))=true
  ·rw[if_pos j];obtain⟨g,i⟩:=ih c h;exact⟨g,λx f=>(i x f).imp id λh=>List.mem_cons_of_mem _ h⟩
  rw[if_neg j];have m:n∉c:=λo=>j (List.any_eq_true.2 ⟨n,o,by simp⟩)
  obtain⟨g,i⟩:=ih (c++[n]) (by
   rw[List.nodup_append]
   exact⟨h,by simp,λa ha b hb e=>by simp at hb;subst hb;exact m (e▸ha)⟩)
  refine⟨g,λx f=> ?_⟩;rcases i x f with d|d
  ·rcases List.mem_append.1 d with d|d
   ·exact .inl d
   simp at d;exact .inr (by simp[d])
  exact .inr (List.mem_cons_of_mem _ d)
 obtain⟨g,i⟩:=go l [] List.nodup_nil;exact⟨g,λx f=>(i x f).resolve_left (by simp)⟩
theorem zWq(b:okF ds f):zDi f<=ds.length:=by
 obtain⟨c,d⟩:=zW1 (zAf f)
 have:=zFu (zTV (zAf f)) (names ds) c λx j=>by
  have k:=zKL f b x (d x j);obtain⟨i,e⟩:∃i:Nat,zBD ds x=i:=⟨(zBD ds x).toNat,by omega⟩;have h:=zNi e;have g:=zQO (ds:=ds) (nm:=x);have a:i<ds.length:=by omega
  unfold names;rw[List.mem_map];refine⟨ds[i],List.getElem_mem a,?_⟩;rw[<-h];simp[List.getD_eq_getElem?_getD,List.getElem?_eq_getElem a]
 simpa[names,zDi]using this
theorem zW2(d:zT ds=true)(c:zBY ds f=0)(g:zXS f ds<=2000)(q:ds.length<=24):(zBp ds f).2=0:=by
 have a:okF ds f:=(zHO c).2;have k:=zWq a;have o:=zUk (f:=f) (f':=zZ ⟨#[]⟩ 0 f) (λm t=>zUm f) ds;obtain⟨R,h⟩:=zVz ds 0 (zZ ⟨#[]⟩ 0 f) ⟨[],[],false⟩ ⟨WSt.new,rfl⟩ (by simp[inn];omega);have b:GInv ds ⟨[],[],false⟩:=⟨Good.nil ds,λp g=>absurd g (by simp)⟩;obtain⟨A,F⟩:=zIx d ds 0 (zZ ⟨#[]⟩ 0 f) ⟨[],[],false⟩ (by simp) (Nat.zero_le _) (zED f a) (zGy f a) (λn j=>zKL _ (zED f a) n j) b R.full;have e:=(zEI A.good F.rng).length_le;have s:=R.w.tab.len;have i:inn ([]:List zB)=0:=rfl;unfold zBp;rw[if_neg (by rw[d];simp[c]),if_neg (by omega)];simp only;rw[if_neg (by rw[R.full];decide),if_neg (by rw[zWn];simp only at h;omega)]
end Go.Proofs.YtommaegelgilnaaGreatDoor
