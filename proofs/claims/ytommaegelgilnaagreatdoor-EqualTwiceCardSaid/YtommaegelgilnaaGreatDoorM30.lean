/- Lemmas. -/
import Derived.Test.YtommaegelgilnaaGreatDoorM21
import Derived.SevenTiedAt
import Derived.Test.YtommaegelgilnaaGreatDoorM28
import Derived.Test.YtommaegelgilnaaGreatDoorM29
import Derived.Test.YtommaegelgilnaaGreatDoorM27
set_option linter.all false
namespace Go.Proofs.YtommaegelgilnaaGreatDoor
open Go.RowKit Go.Proofs.Tryz
set_option maxHeartbeats 2000000
set_option maxRecDepth 100000
variable {m:Nat}{v:Value}
section
open Go.ChangeShapes Go.WideShapes Go.ChangeAt
section ops
variable {H:Type} {enc:TypeId × Value->H} {w:World} {held:Bool}
theorem zHC:prog.underlying 3=some (.int .i64):=underlying3
theorem zND:prog.underlying 9=some .string :=underlying9
theorem zHD:prog.cellsOf 3=1:=by kernel_rfl
theorem zQW:prog.cellsOf 9=1:=by kernel_rfl
theorem zOr{α:Type}(f:α->Value){l:List α}{A:Option Addr}(h:zAW (λcs(n:α)=>cs=[f n]) 1 (zCf w) w l A):Row (zCf w) w A (l.map f):=by
 have:∀(l:List α)(A:Option Addr),zAW (λcs(n:α)=>cs=[f n]) 1 (zCf w) w l A->zAW (λcs v=>cs=[v]) 1 (zCf w) w (l.map f) A:=by
  intro l
  induction l with
  |nil=>intro A _;exact trivial
  |cons n l ih=>intro A ⟨b,a,cs,e,i,g,c,d⟩;exact⟨b,a,cs,e,i,g,c,ih _ d⟩
 exact zIU (this _ _ h)
theorem zSt{y:DataW H × List MemPlace}(h:DataW.trod enc prog w 0 (λ_=>true) held m 26 [v]=some y)(c:zBb prog 26 y.1):∃xs,Names (zCf w) w v xs:=by
 obtain⟨l,A,a,e,f,g,j,d⟩:=zFg (R:=λb(s:ByteArray)=>b=[.string s]/\zB2 s) (by decide) underlying26 (show prog.cellsOf 9=1 by kernel_rfl) h c (λm b y _ hl q c=>by
  match b,hl with
  |[c0],_=>
   obtain⟨s,rfl,n⟩:=zH1 zND q c
   exact⟨s,rfl,n⟩)
 rw[show prog.bytesOf 9=16 by kernel_rfl,zDv]at j;obtain rfl:v=_:=by simpa using e
 refine⟨l,⟨A,a,rfl,f,by simpa[maxLen]using g,by omega,zOr _ (d.imp (λ_ _ h=>h.1) (zA.refl _ _) (λ_ h=>h))⟩,λx o=> ?_⟩;obtain⟨i,k,rfl⟩:=List.getElem_of_mem o;obtain⟨_,_,_,_,_,_,h⟩:=zAW.at_ d k;exact h.2
theorem zSu{y:DataW H × List MemPlace}(h:DataW.trod enc prog w 0 (λ_=>true) held m 22 [v]=some y)(B:zBb prog 22 y.1):∃xs,zn (zCf w) w v xs:=by
 obtain⟨b,c,d,g,i,j,k,n,Z,⟨L,o0⟩,⟨M,o1⟩,⟨t2,o2⟩,⟨N,o3⟩,⟨O,o4⟩,⟨t5,o5⟩,⟨t6,o6⟩,⟨t7,o7⟩⟩:∃b c d g i j k n,prog.underlying 54=some (.struct #[b,c,d,g,i,j,k,n])/\(b.type=9/\b.offset=0)/\(c.type=9/\c.offset=1)/\(d.type=3/\d.offset=2)/\(g.type=9/\g.offset=3)/\(i.type=52/\i.offset=4)/\(j.type=3/\j.offset=9)/\(k.type=3/\k.offset=10)/\(n.type=3/\n.offset=11):=⟨_,_,_,_,_,_,_,_,underlying54,⟨rfl,rfl⟩,⟨rfl,rfl⟩,⟨rfl,rfl⟩,⟨rfl,rfl⟩,⟨rfl,rfl⟩,⟨rfl,rfl⟩,⟨rfl,rfl⟩,rfl,rfl⟩
 obtain⟨l,A,o,e,V,W,X,Y⟩:=zFg (R:=λq(x:zF)=>zBs (zCf w) w q x) (by decide) underlying22 (show prog.cellsOf 54=12 by kernel_rfl) h B (λm q y _ hl hy B=>by
  obtain⟨-,a⟩:=zEa Z hy B
  match q,hl with
  |[c0,c1,c2,c3,c4,c5,c6,c7,c8,c9,c10,c11],_=>
   obtain⟨m0,y0,-,C,P⟩:=a 0 b rfl;obtain⟨m1,y1,-,D,Q⟩:=a 1 c rfl;obtain⟨m2,y2,-,E,w2⟩:=a 2 d rfl;obtain⟨m3,y3,-,F,T⟩:=a 3 g rfl;obtain⟨m4,y4,-,G,U⟩:=a 4 i rfl;obtain⟨m5,y5,-,I,w5⟩:=a 5 j rfl;obtain⟨m6,y6,-,J,w6⟩:=a 6 k rfl;obtain⟨m7,y7,-,K,w7⟩:=a 7 n rfl;rw[L,o0,zQW]at C;rw[M,o1,zQW]at D;rw[t2,o2,zHD]at E;rw[N,o3,zQW]at F;rw[O,o4,show prog.cellsOf 52=5 by kernel_rfl]at G;rw[t5,o5,zHD]at I;rw[t6,o6,zHD]at J;rw[t7,o7,zHD]at K;rw[L]at P;rw[M]at Q;rw[N]at T;rw[O]at U;obtain⟨s0,rfl,t⟩:=zH1 zND C P;obtain⟨s1,rfl,u⟩:=zH1 zND D Q;obtain⟨n2,rfl,i2⟩:=zDG zHC E;obtain⟨s3,rfl,z⟩:=zH1 zND F T;obtain⟨f,s⟩:=zUW tys _ _ _ rfl G U;obtain⟨n5,rfl,i5⟩:=zDG zHC I;obtain⟨n6,rfl,i6⟩:=zDG zHC J;obtain⟨n7,rfl,i7⟩:=zDG zHC K
   exact⟨⟨s0,s1,n2,s3,f,n5,n6,n7⟩,_,s,rfl,t,u,z,i2,i5,i6,i7⟩)
 rw[show prog.bytesOf 54=144 by kernel_rfl,zDv]at X;obtain rfl:v=_:=by simpa using e
 exact⟨l,⟨A,o,rfl,V,by simpa[maxLen]using W,by omega,Y⟩⟩
theorem zRl{y:DataW H × List MemPlace}(h:DataW.trod enc prog w 0 (λ_=>true) held m 98 [v]=some y)(f:zBb prog 98 y.1):∃xs,zB4 (zCf w) w v xs:=by
 obtain⟨a,b,t,⟨F,D⟩,⟨G,E⟩⟩:∃a b,prog.underlying 104=some (.struct #[a,b])/\(a.type=3/\a.offset=0)/\(b.type=3/\b.offset=1):=⟨_,_,underlying104,⟨rfl,rfl⟩,rfl,rfl⟩
 obtain⟨l,A,c,e,k,n,o,q⟩:=zFg (R:=λd(s:Int × Int)=>d=[.int .i64 s.1,.int .i64 s.2]/\I64 s.1/\I64 s.2) (by decide) underlying98 (show prog.cellsOf 104=2 by kernel_rfl) h f (λm d y _ hl u f=>by
  obtain⟨-,g⟩:=zEa t u f
  match d,hl with
  |[c0,c1],_=>
   obtain⟨I,M,-,i,K⟩:=g 0 a rfl;obtain⟨J,N,-,j,L⟩:=g 1 b rfl;rw[F,D,zHD]at i;rw[G,E,zHD]at j;obtain⟨B,rfl,x⟩:=zDG zHC i;obtain⟨C,rfl,z⟩:=zDG zHC j
   exact⟨(B,C),rfl,x,z⟩)
 rw[show prog.bytesOf 104=16 by kernel_rfl,zDv]at o;obtain rfl:v=_:=by simpa using e
 exact⟨l,A,c,rfl,k,by simpa[maxLen]using n,by omega,q⟩
theorem zSv{y:DataW H × List MemPlace}(h:DataW.trod enc prog w 0 (λ_=>true) held m 27 [v]=some y)(d:zBb prog 27 y.1):∃xs,zCy (zCf w) w v xs:=by
 obtain⟨a,s,⟨i,z⟩⟩:∃a,prog.underlying 100=some (.struct #[a])/\(a.type=98/\a.offset=0):=⟨_,underlying100,rfl,rfl⟩
 obtain⟨l,A,b,e,k,n,o,q⟩:=zFg (R:=λc(x:zp)=>zF9 (zCf w) w c x) (by decide) underlying27 (show prog.cellsOf 100=1 by kernel_rfl) h d (λm c y _ hl u d=>by
  obtain⟨-,t⟩:=zEa s u d
  match c,hl with
  |[c0],_=>
   obtain⟨B,C,-,g,j⟩:=t 0 a rfl;rw[i,z,show prog.cellsOf 98=1 by kernel_rfl]at g;rw[i]at j;obtain⟨xs,f⟩:=zRl g j
   exact⟨xs,_,rfl,f⟩)
 rw[show prog.bytesOf 100=24 by kernel_rfl,zDv]at o;obtain rfl:v=_:=by simpa using e
 exact⟨l,⟨A,b,rfl,k,by simpa[maxLen]using n,by omega,q⟩⟩
theorem zTh{y:DataW H × List MemPlace}(h:DataW.trod enc prog w 0 (λ_=>true) held m 34 [v]=some y)(a:zBb prog 34 y.1):∃xs,zO (zCf w) w v xs:=by
 obtain⟨b,xs,e,h⟩:=zT2 underlying34 underlying3 (by kernel_rfl) (by kernel_rfl) h a;obtain rfl:v=b:=by simpa using e
 exact⟨xs,h⟩
theorem zSw{y:DataW H × List MemPlace}(h:DataW.trod enc prog w 0 (λ_=>true) held m 28 [v]=some y)(c:zBb prog 28 y.1):∃xs,zDK (zCf w) w v xs:=by
 obtain⟨l,A,a,e,f,g,i,j⟩:=zFg (R:=λb(x:List Int)=>zFC (zCf w) w b x) (by decide) underlying28 (show prog.cellsOf 34=1 by kernel_rfl) h c (λm b y _ hl k c=>by
  match b,hl with
  |[c0],_=>
   obtain⟨xs,d⟩:=zTh k c
   exact⟨xs,_,rfl,d⟩)
 rw[show prog.bytesOf 34=24 by kernel_rfl,zDv]at i;obtain rfl:v=_:=by simpa using e
 exact⟨l,⟨A,a,rfl,f,by simpa[maxLen]using g,by omega,j⟩⟩
end ops
section args
variable {H:Type} {enc:TypeId × Value->H} {W:World} {v:Value} {d:DataW H} {ps:List MemPlace} {base:Nat}
theorem zSx(f:Value.okWide prog W .any base 22 v)(e:DataW.Trod enc prog W 0 (λ_=>true) true 22 v d ps)(g:zBb prog 22 d):∃xs,zn (zCf W) W v xs:=by
 obtain⟨A,n,c,rfl⟩:=okWide_slice underlying22 f;obtain⟨a,b⟩:=e;exact zSu b g
theorem zRm(V:Value.okWide prog W .any base 30 v)(T:DataW.Trod enc prog W 0 (λ_=>true) true 30 v d ps)(X:zBb prog 30 d):∃vd F H G s,v= .agg #[vd,F,H,G,.int .i64 s.signed,.int .i64 s.now]/\zBq (zCf W) W vd F H G s:=by
 obtain⟨M,rfl,i⟩:=okWide_struct underlying30 V;obtain⟨n,Q⟩:=T;obtain⟨a,c,e,f,g,h,U,⟨A,o0⟩,⟨B,o1⟩,⟨C,o2⟩,⟨D,o3⟩,⟨t4,o4⟩,⟨t5,o5⟩⟩:∃a c e f g h,prog.underlying 30=some (.struct #[a,c,e,f,g,h])/\(a.type=25/\a.offset=0)/\(c.type=26/\c.offset=1)/\(e.type=27/\e.offset=2)/\(f.type=28/\f.offset=3)/\(g.type=3/\g.offset=4)/\(h.type=3/\h.offset=5):=⟨_,_,_,_,_,_,underlying30,⟨rfl,rfl⟩,⟨rfl,rfl⟩,⟨rfl,rfl⟩,⟨rfl,rfl⟩,⟨rfl,rfl⟩,rfl,rfl⟩;obtain⟨N,R,⟨z,r0⟩⟩:∃a,prog.underlying 25=some (.struct #[a])/\(a.type=23/\a.offset=0):=⟨_,underlying25,rfl,rfl⟩;obtain⟨-,b⟩:=zEa U Q X;obtain⟨l⟩:=M;rw[show prog.cellsOf 30=6 by kernel_rfl]at i
 match l,i with
 |[c0,c1,c2,c3,c4,c5],_=>
  obtain⟨m0,y0,-,q,I⟩:=b 0 a rfl;obtain⟨m1,y1,-,t,J⟩:=b 1 c rfl;obtain⟨m2,y2,-,u,K⟩:=b 2 e rfl;obtain⟨m3,y3,-,w,L⟩:=b 3 f rfl;obtain⟨m4,y4,-,x,w4⟩:=b 4 g rfl;obtain⟨m5,y5,-,y,w5⟩:=b 5 h rfl;rw[A,o0,show prog.cellsOf 25=1 by kernel_rfl]at q;rw[A]at I;rw[B,o1,show prog.cellsOf 26=1 by kernel_rfl]at t;rw[B]at J;rw[C,o2,show prog.cellsOf 27=1 by kernel_rfl]at u;rw[C]at K;rw[D,o3,show prog.cellsOf 28=1 by kernel_rfl]at w;rw[D]at L;rw[t4,o4,zHD]at x;rw[t5,o5,zHD]at y;obtain⟨-,m⟩:=zEa R q I;obtain⟨k0,z0,-,o,E⟩:=m 0 N rfl;rw[z,r0,show prog.cellsOf 23=1 by kernel_rfl]at o;rw[z]at E;obtain⟨ds,P⟩:=zSX tys o E;obtain⟨j,ha⟩:=zSt t J;obtain⟨zs,Y⟩:=zSv u K;obtain⟨k,O⟩:=zSw w L;obtain⟨n4,rfl,Z⟩:=zDG zHC x;obtain⟨n5,rfl,i5⟩:=zDG zHC y;exact⟨c0,c1,c2,c3,⟨ds,j,zs,k,n4,n5⟩,rfl,P,ha,Y,O,Z,i5⟩
end args
end
section
open Go
theorem zTi:mapsRowed prog=true:=by kernel_rfl
theorem zTj:(prog.stops==[])=true:=by kernel_rfl
theorem zTk:(prog.stopKnobs==[])=true:=by kernel_rfl
theorem zTl:prog.stopsHeard=true:=by kernel_rfl
theorem zTm:prog.mayEnter=true:=by kernel_rfl
theorem zTn:(Rows.equalMatchesReferenceRow.lifted==prog.liftsFinal)=true:=by kernel_rfl
theorem zUH:(Rows.equalMatchesReferenceRow.plainKeys==prog.plainKeys)=true:=by kernel_rfl
theorem zUI:(prog.make==some Rows.equalMatchesReferenceRow.make)=true:=by kernel_rfl
theorem zUJ:Tryz.pinned.checked.prog.mainIs=some (true,"b7c691893ac5ffd63a8a77a1c3b8b90599a3d2dc70d51f5bf9900650e53e98a9".toList):=by kernel_rfl
theorem zTo:true=Tryz.pinned.checked.prog.looks []:=by kernel_rfl
end
theorem zM2(nm:ByteArray)(x:Int)(ds:List zE):∀(m:Nat)(f:Fm),zH f<=m->zH f<=1000000->∀(Z:zD)(cs:List Value)(w:World),FmR Z w f cs->zA0 (zAB ds) f=0->
  Calls prog 178 #[.agg cs.toArray,.string nm,.int .i64 x] w (zEB Z (zZ nm x f) w):=by
 intro m
 induction m with
 |zero=>intro f hm;have:=zCH f;omega
 |succ m ih=>
 intro f hm hM Z cs w J G;have IH:=hid ih;clear ih;obtain⟨A,s,rfl⟩:=FmR.form J;obtain⟨h0,D⟩:=zDD G;obtain⟨d,o⟩:=zEL h0;obtain⟨k,a2⟩:=zHw J;have q:=hid (zIq nm x f);by_cases B:f.op=3
 ·by_cases F:f.name=nm
  ·(have ah:(f.name.toList==nm.toList)=true:=by rw[zBK];simp[F]);(have c:zZ nm x f=kn (zHP x f.cmp f.num):=by rw[q.out,if_pos B,if_pos F]);have HK:=hid (show ∀I,Bw w I->zEB Z (zZ nm x f) w (.returned (knV (zHP x f.cmp f.num))) I from λI hw=>⟨_,rfl,by rw[c];exact zNe _ _ _,hw⟩);(have aa:(f.op==(3:Int))=true:=by simp[B]);have HC:=hid (λw=>zOg x f.cmp f.num w);generalize zHP x f.cmp f.num=b at*;have HN:=hid (λw=>zMP b w);clear q B c J k D G d o h0 IH F;(go_enter func178,ntmps178);(go_wp2_with fail);refine(HC _).mono ?_;rintro e N ⟨rfl,rfl⟩;dsimp only;(go_wp2_with fail);refine(HN _).mono ?_;rintro e N ⟨rfl,n⟩;have H:=zA2 (zCX w _ _) n;(have ak:w.heap.size+1<N.heap.size:=by have:=n.size;simp at this;omega);have O:=hid ((Blk.new (w.alloc (.cells #[.int .i64 f.op,.string f.name,.int .i64 f.cmp,.int .i64 f.num,.slice A f.kids.length s] 52)) 52 #[.int .i64 0,.string ⟨#[]⟩,.int .i64 0,.int .i64 0,.slice none 0 0]).below n (by simp));simp only[World.size_alloc]at O;have y:=hid H;clear H n;unfold knV at HK;unfold knV;dsimp only;go_wp2_with(refine zN rfl 52 _ _ rfl rfl rfl O rfl Tryz.szF (by simp[Value.oneCell']) ?_;intro K i C ar);obtain⟨⟨r0,r1,r2,r3,r4⟩,-⟩:=zDU i;refine bodyPost_ret (v:=knV b) (by unfold knV;simp[results,results178,go_sem,r0,r1,r2,r3,r4];try rfl) rfl (HK _ (zAm y C (by omega) (by omega)))
  ·(have ah:(f.name.toList==nm.toList)=false:=by rw[zBK];simp[F]);(have c:zZ nm x f=f:=by rw[q.out,if_pos B,if_neg F]);have HK:=hid (show ∀I,Bw w I->zEB Z (zZ nm x f) w (.returned (.agg #[.int .i64 f.op,.string f.name,.int .i64 f.cmp,.int .i64 f.num,.slice A f.kids.length s])) I from λI hw=>⟨_,rfl,by rw[c];exact FmR.mono (λb hb=>Or.inl hb) _ _ (FmR.keep (.of_below hw) _ _ J),hw⟩);(have aa:(f.op==(3:Int))=true:=by simp[B]);clear q B c J k D G d o h0 IH F;(go_enter func178,ntmps178);go_wp2;refine bodyPost_ret (v:= .agg #[.int .i64 f.op,.string f.name,.int .i64 f.cmp,.int .i64 f.num,.slice A f.kids.length s]) (by simp[results,results178,go_sem];try rfl) rfl (HK _ (by exact blw))
 ·have aa:(f.op==(3:Int))=false:=by simp[B]
  by_cases P:f.op=4
  ·have E:f.kids.length=1:=by
    rw[zEz B]at d;split at d
    ·simp at d
    ·simpa[P]using d
   obtain⟨g,hg⟩:∃g,f.kids=[g]:=by
    cases hk:f.kids with
    |nil=>rw[hk]at E;simp at E
    |cons x r=>rw[hk]at E;simp at E;exact⟨x,by rw[E]⟩
   (have ap:zH g<zH f:=by have:=zCQ f;rw[hg]at this;simp[zV]at this;omega);rw[hg]at k D;have af:zA0 (zAB ds) g=0:=zCZ D 0 (by simp);obtain⟨b,av,cs,rfl,hz,ae,U,-⟩:=k;have M:=U;obtain⟨A',aw,rfl⟩:=FmR.form U;obtain⟨c0,c1,c2,c3,c4⟩:=zAL (λj u hu=>ae j u hu);have HC:=hid (λW(h:Bw w W)=>IH g (by omega) (by omega) (λb=>Z b/\b<w.heap.size) _ W (FmR.keep (.of_below h) _ _ (FmR.live _ _ M)) af);(have c:zZ nm x f=zEe (zZ nm x g):=by rw[q.out,if_neg B,if_pos P,hg];simp[zAT]);have HG:=hid c;(have a3:(0:Int)<(f.kids.length:Nat):=by omega);(have a4:0<f.kids.length:=by omega);have ak:=lt_of_cell c0;(have aj:(f.op==(4:Int))=true:=by simp[P]);clear q B P ae U M ap hg E D d o h0 af J c;generalize zZ nm x g=a at*;(go_enter func178,ntmps178);(go_wp2_with fail);refine(HC _ (zCX w _ _)).mono ?_;rintro e N ⟨ay,rfl,V,n⟩;obtain⟨A1,t,rfl⟩:=FmR.form V;have H:=zA2 (zCX w _ _) n;(have ax:w.heap.size+1<N.heap.size:=by have:=n.size;simp at this;omega);have O:=hid ((Blk.new (w.alloc (.cells #[.int .i64 f.op,.string f.name,.int .i64 f.cmp,.int .i64 f.num,.slice (some ⟨b,av,none⟩) f.kids.length s] 52)) 52 #[.int .i64 0,.string ⟨#[]⟩,.int .i64 0,.int .i64 0,.slice none 0 0]).below n (by simp));simp only[World.size_alloc]at O;have y:=hid H;have ai:=hid V;clear H n V;dsimp only;by_cases z:a.op=1\/a.op=2
   ·have L:=hid (show zEe a=kn (a.op==2) from if_pos z)
    have aq:((a.op==(1:Int))=true/\(a.op==(2:Int))=false)\/((a.op==(1:Int))=false/\(a.op==(2:Int))=true):=by
     rcases z with h|h<;>simp[h]
    have HN:=hid (λb w=>zMP b w);clear z;rcases aq with⟨ho,ho2⟩|⟨ho,ho2⟩
    ·(go_wp2_with fail);refine(HN _ _).mono ?_;rintro e K ⟨rfl,i⟩;have Q:=hid (((O).alloc (.cells #[.int .i64 a.op,.string a.name,.int .i64 a.cmp,.int .i64 a.num,.slice A1 a.kids.length t] 52)).below i (by simp;omega));have R:=hid (zA2 (y.alloc y.size _) i);(have ad:w.heap.size+1<K.heap.size:=by have:=i.size;simp at this;omega);clear i;unfold knV;dsimp only;go_wp2_with(refine zN rfl 52 _ _ rfl rfl rfl Q rfl Tryz.szF (by simp[Value.oneCell']) ?_;intro w3 T X au);obtain⟨⟨r0,r1,r2,r3,r4⟩,-⟩:=zDU T;refine bodyPost_ret (v:=knV false) (by unfold knV;simp[results,results178,go_sem,r0,r1,r2,r3,r4];try rfl) rfl ⟨_,rfl,?_,zAm R X (by omega) (by omega)⟩;rw[HG.out,L.out,ho2];exact zNe _ _ _
    ·(go_wp2_with fail);refine(HN _ _).mono ?_;rintro e K ⟨rfl,i⟩;have Q:=hid (((O).alloc (.cells #[.int .i64 a.op,.string a.name,.int .i64 a.cmp,.int .i64 a.num,.slice A1 a.kids.length t] 52)).below i (by simp;omega));have R:=hid (zA2 (y.alloc y.size _) i);(have ad:w.heap.size+1<K.heap.size:=by have:=i.size;simp at this;omega);clear i;unfold knV;dsimp only;go_wp2_with(refine zN rfl 52 _ _ rfl rfl rfl Q rfl Tryz.szF (by simp[Value.oneCell']) ?_;intro w3 T X au);obtain⟨⟨r0,r1,r2,r3,r4⟩,-⟩:=zDU T;refine bodyPost_ret (v:=knV true) (by unfold knV;simp[results,results178,go_sem,r0,r1,r2,r3,r4];try rfl) rfl ⟨_,rfl,?_,zAm R X (by omega) (by omega)⟩;rw[HG.out,L.out,ho2];exact zNe _ _ _
   ·(have a1:(a.op==(1:Int))=false:=by simp;omega);(have C:(a.op==(2:Int))=false:=by simp;omega);have HN:=hid (show zEe a= .mk 4 ⟨#[]⟩ 0 0 [a] from if_neg z);clear z;go_wp2_with(refine zN rfl 52 _ _ rfl rfl rfl (((O).alloc _).alloc _) rfl Tryz.szF (by simp[Value.oneCell']) ?_;intro K i C ar);obtain⟨⟨r0,r1,r2,r3,r4⟩,-⟩:=zDU i;have hK:zA (λb=>(Z b\/w.heap.size<=b)/\b≠w.heap.size+1) N K:=(((zA.refl _ _).alloc _).alloc _).trans (C.mono (λ_ _ h=>h.2))
    have ag:K.heap[N.heap.size+1]? =some (.cells #[.int .i64 a.op,.string a.name,.int .i64 a.cmp,.int .i64 a.num,.slice A1 a.kids.length t] 52 (0,0)):=by
     rw[C.block _ (by simp) (by omega)];have:=heap_alloc_new (N.alloc (.cells #[.int .i64 a.op,.string a.name,.int .i64 a.cmp,.int .i64 a.num,.slice A1 a.kids.length t] 52)) (.cells #[.int .i64 a.op,.string a.name,.int .i64 a.cmp,.int .i64 a.num,.slice A1 a.kids.length t] 52);simpa using this
    have ac:Bw w K:=zAm ((y.alloc y.size _).alloc (by simp;omega) _) C (by omega) (by simp;omega);refine bodyPost_ret (v:= .agg #[.int .i64 4,.string ⟨#[]⟩,.int .i64 0,.int .i64 0,.slice (some ⟨N.heap.size+1,0,none⟩) 1 1]) (by simp[results,results178,go_sem,r0,r1,r2,r3,r4];try rfl) rfl ?_;refine⟨_,rfl,?_,ac⟩;rw[HG.out,HN.out]
    have Y:=FmR.mono (Z':=λb=>(Z b\/w.heap.size<=b)/\b≠w.heap.size+1) (λb hb=>by
     obtain⟨h1,h2⟩:=hb;rcases h1 with⟨h1,B⟩|h1
     ·exact⟨Or.inl h1,by omega⟩
     ·simp at h1;exact⟨Or.inr (by omega),by omega⟩) _ _ (FmR.live _ _ ai)
    have al:=FmR.keep hK _ _ Y;have ao:=FmR.mono (Z':=λb=>Z b\/w.heap.size<=b) (λb hb=>hb.1) _ _ al;unfold FmR;refine⟨by simp[I64],by decide,by simp[I64],by simp[I64],_,1,rfl,Nat.le_refl _,by decide,by simp,?_⟩;unfold zAD;refine⟨_,_,_,rfl,Or.inr (by omega),λj u hu=> ?_,ao,by unfold zAD;trivial⟩;rw[cell_of_row K _ _ _ _ _ ag];simpa using hu
  ·(have aj:(f.op==(4:Int))=false:=by simp[P]);by_cases ab:f.op=5\/f.op=6
   ·by_cases h5:f.op=5
    ·exact zNs nm x ds m IH f hm hM Z A s w J G h5
    ·exact zOo nm x ds m IH f hm hM Z A s w J G (by omega)
   ·(have az:(f.op==(5:Int))=false:=by simp;omega);(have a0:(f.op==(6:Int))=false:=by simp;omega);(have c:zZ nm x f=f:=by rw[q.out,if_neg B,if_neg P,if_neg ab]);have HK:=hid (show ∀I,Bw w I->zEB Z (zZ nm x f) w (.returned (.agg #[.int .i64 f.op,.string f.name,.int .i64 f.cmp,.int .i64 f.num,.slice A f.kids.length s])) I from λI hw=>⟨_,rfl,by rw[c];exact FmR.mono (λb hb=>Or.inl hb) _ _ (FmR.keep (.of_below hw) _ _ J),hw⟩);clear q B P ab c J k D G d o h0 IH;(go_enter func178,ntmps178);go_wp2;refine bodyPost_ret (v:= .agg #[.int .i64 f.op,.string f.name,.int .i64 f.cmp,.int .i64 f.num,.slice A f.kids.length s]) (by simp[results,results178,go_sem];try rfl) rfl (HK _ (by exact blw))
section cells
variable {ds:List zE} {L:Nat->List Int} {a b g:List zB} {p q:List Int->Bool} {k:Nat} {x:Int}
def zTX(ds:List zE)(L:Nat->List Int)(p:List Int->Bool):Prop:=
 ∀c(i:Nat)(v:Int),Fit ds c->i<ds.length->(ds.getD i zAP).lo <v->v<=(ds.getD i zAP).hi ->v∉L i->p (c.set i (v-1))=p (c.set i v)
section two
variable (hl:zDt ds) (ha:Good ds a) (hb:Good ds b) (ra:Rng a 0) (rb:Rng b 0) (hL:∀i,i<ds.length->zAE (ds.getD i zAP).lo (ds.getD i zAP).hi (L i))
include hl ha hb ra rb hL
variable (Ta:zTX ds L (S ds a 0)) (Tb:zTX ds L (S ds b 0))
include Ta Tb
end two
end cells
section side
variable {ds:List zE} {c c':List Int}
end side
end Go.Proofs.YtommaegelgilnaaGreatDoor
