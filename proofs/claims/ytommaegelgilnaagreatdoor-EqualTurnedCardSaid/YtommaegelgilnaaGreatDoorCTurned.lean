/- EqualTurned: for every two lists and scene, whatever they are: the law returns true, and the arguments read behind the call as before it. Conditions: the row's own (the listed variables of Go's library read as its text lays them: the card ties them). -/
import Derived.Test.YtommaegelgilnaaGreatDoorM44
import Derived.Test.YtommaegelgilnaaGreatDoorCards
import Derived.Test.YtommaegelgilnaaGreatDoorTie
set_option linter.all false
namespace Go.Proofs.YtommaegelgilnaaGreatDoor
open Go.RowKit Go.Proofs.Tryz
set_option maxHeartbeats 8000000
set_option maxRecDepth 100000
section
variable {a b l:List zF} {s:zM} {L:Nat->List Int}
theorem zUq(c:MOk a s)(d:MOk b s):zDL a b s=zDL b a s:=zOB (zM6 a b s) (zM6 b a s) λx=>by
 rw[zRr c d,zRr d c];have:∀y,(y∈a\/y∈b)↔(y∈b\/y∈a):=λ_=>Or.comm
 simp only[this]
theorem zVX{α:Type}{P:α->Prop}:∀{d a c b:List α}{p q:α},d++p::c=a++q::b->(∀x∈d,¬P x)->(∀x∈a,¬P x)->P p->P q->p=q
 |[],[],_,_,_,_,e,_,_,_,_=>by injection e
 |[],y::r,_,_,p,_,e,_,h,hp,_=>by
  injection e with e _;subst e;exact absurd hp (h _ (by simp))
 |y::r,[],_,_,_,q,e,h,_,_,hq=>by
  injection e with e _;subst e;exact absurd hq (h _ (by simp))
 |y::r,z::t,_,_,_,_,e,h,h',hp,hq=>by
  injection e with _ e;exact zVX e (λx f=>h x (by simp[f])) (λx f=>h' x (by simp[f])) hp hq
theorem zWQ{x:Int}{c d:List Int}(h:zPd c d):zPd (x::c) (x::d):=by
 obtain⟨j,a,b,e,f⟩:=h;refine⟨j+1,by simpa using a,by simpa using b,λi g=> ?_,by simpa using f⟩
 cases i with
 |zero=>rfl
 |succ i=>simpa using e i (by omega)
theorem zW3:∀{c d:List Int},c.length=d.length->¬zPd c d->¬zPd d c->c=d
 |[],[],_,_,_=>rfl
 |[],y::d,h,_,_=>by simp at h
 |x::c,[],h,_,_=>by simp at h
 |x::c,y::d,h,h1,h2=>by
  have e:x=y:=by
   rcases Int.lt_trichotomy x y with a|a|a
   ·exact absurd ⟨0,by simp,by simp,λi b=>absurd b (by omega),by simpa using a⟩ h1
   ·exact a
   exact absurd ⟨0,by simp,by simp,λi b=>absurd b (by omega),by simpa using a⟩ h2
  subst e;rw[zW3 (by simpa using h) (λh=>h1 (zWQ h)) (λh=>h2 (zWQ h))]
def zVh(x:zHQ):zHQ:=⟨x.signed,x.now,x.cas,x.b,x.a⟩
theorem zUa(sg nw:Int)(c:List Int):zIG a b s sg nw c=zIG b a s sg nw c:=by
 unfold zIG;cases zHF a s sg nw c<;>cases zHF b s sg nw c<;>cases zFo a s sg nw c<;>cases zFo b s sg nw c<;>rfl
theorem zW9{A:List (Int × Int)}{x y:zHQ}(F:Found a b s A x)(G:Found b a s A y):x=zVh y:=by
 obtain⟨⟨I,w,e,E⟩,o,k,D,m,n⟩:=F;obtain⟨⟨z,u,C,t⟩,i,d,q,f,g⟩:=G
 have j:(x.signed,x.now)=(y.signed,y.now):=zVX (P:=λp=>∃c,Fit s.dom c/\zIG a b s p.1 p.2 c=true) (e.symm.trans C)
  (λp hpm ⟨c,hc,h⟩=>by rw[E p hpm c hc]at h;cases h) (λp hpm ⟨c,hc,h⟩=>by rw[zUa,t p hpm c hc]at h;cases h) ⟨_,o,k⟩ ⟨_,i,by rw[zUa];exact d⟩
 injection j with j h2;have v:x.cas=y.cas:=zW3 (by rw[o.1,i.1]) (λh=>q _ o (by rw[zUa,<-j,<-h2];exact k) h) (λh=>D _ i (by rw[zUa,j,h2];exact d) h);obtain⟨M,L,K,N,O⟩:=x;obtain⟨J,H,B,Q,R⟩:=y;dsimp only at j h2 v m n f g;subst j h2 v m n f g;rfl
theorem zVi(j:zWh a b s):((zAO a b s).2.2=0↔(zAO b a s).2.2=0)/\((zAO a b s).2.2≠0->(zAO a b s).2.1=false)/\
  ((zAO a b s).2.2=0->(zAO b a s).2.2=0->(zAO a b s).2.1=(zAO b a s).2.1/\(zAO a b s).1=zVh (zAO b a s).1):=by
 refine⟨?_,λh=> ?_,λh m=> ?_⟩
 ·rw[zUj j,zUj j.turn];constructor
  ·rintro⟨h1,h2,h3⟩;exact⟨h2,h1,by rw[zUq h2 h1];exact h3⟩
  rintro⟨h1,h2,h3⟩;exact⟨h2,h1,by rw[zUq h2 h1];exact h3⟩
 ·cases t:(zAO a b s).2.1 with
  |false=>rfl
  |true=>exact absurd ((zMx (a:=a) (b:=b) (s:=s)).1 t).1 h
 obtain⟨o,q,-⟩:=(zUj j).1 h;have i:=zMx (a:=a) (b:=b) (s:=s);have c:=zMx (a:=b) (b:=a) (s:=s);rw[zUq q o]at c;generalize zAO a b s=x at*;generalize zAO b a s=y at*;obtain⟨x,u,v⟩:=x;obtain⟨y,n,w⟩:=y;dsimp only at h m i c⊢;subst h m
 cases u with
 |true=>
  obtain⟨-,-,-,g⟩:=i.1 rfl
  cases n with
  |true=>
   obtain⟨-,-,-,d⟩:=c.1 rfl;exact⟨rfl,zW9 g d⟩
  |false=>
  obtain⟨k,f,e,-⟩:=g.is;rcases(c.2 rfl).2 with h1|⟨_,_,_,h1⟩
  ·exact absurd rfl h1
  have:=h1 (x.signed,x.now) (by rw[e];simp) x.cas g.fit;rw[zUa,g.part]at this;cases this
 |false=>
 rcases(i.2 rfl)with⟨e1,h1|⟨_,_,_,h1⟩⟩
 ·exact absurd rfl h1
 cases n with
 |true=>
  obtain⟨-,-,-,d⟩:=c.1 rfl;obtain⟨k,f,e,-⟩:=d.is;have:=h1 (y.signed,y.now) (by rw[e];simp) y.cas d.fit;rw[zUa,d.part]at this;cases this
 |false=>
 refine⟨rfl,?_⟩;rw[e1,(c.2 rfl).1];rfl
end
section
open Go.Shelf
theorem zXk(x:zGL):zU8 x x=true:=by simp[zU8]
theorem zWa(x:zHQ):zUt (zVh x) ⟨x.signed,x.now,x.cas,x.b,x.a⟩=true:=by simp[zUt,zVh,zXk]
theorem zWN(Z:zD)(la lb vd va vz vc:Value)(a b:List zF)(s:zM)(w:World)(ha:zn Z w la a)(f:zn Z w lb b)(h:zBq Z w vd va vz vc s)(v:∀b,Z b->b<w.heap.size)(ht:zBr w.heap.size w):
  Calls prog 6 #[la,lb,.agg #[vd,va,vz,vc,.int .i64 s.signed,.int .i64 s.now]] w λe w'=>e= .returned (.bool true)/\Below w.heap.size w w':=by
 have ai:=hid (λW(H:Below w.heap.size w W)=>(ht.on H).mono H.size);have ah:=hid (λW(H:Below w.heap.size w W)=>(h.keep (show zA Z w W from .of_below_lt H λb _ f=>v b f)).mono (Z':=λb=>b<W.heap.size) λb f=>Nat.lt_of_lt_of_le (v b f) H.size);have af:=hid (λW(H:Below w.heap.size w W)=>zn.mono (zn.keep ha (show zA Z w W from .of_below_lt H λb _ f=>v b f)) (Z':=λb=>b<W.heap.size) λb f=>Nat.lt_of_lt_of_le (v b f) H.size);have ag:=hid (λW(H:Below w.heap.size w W)=>zn.mono (zn.keep f (show zA Z w W from .of_below_lt H λb _ f=>v b f)) (Z':=λb=>b<W.heap.size) λb f=>Nat.lt_of_lt_of_le (v b f) H.size);obtain⟨LA,bg,rfl,bq⟩:=zj.form ha;obtain⟨LB,bh,rfl,br⟩:=zj.form f;obtain⟨DA,G,rfl⟩:∃A2 E,vd= .slice A2 s.dom.length E:=by obtain⟨⟨A2,E,e,_⟩,_⟩:=h.d;exact⟨A2,E,e⟩
 obtain⟨NA,I,rfl,-,-,bs⟩:=h.a.form;obtain⟨ZA,P,rfl,bt⟩:=zj.form h.z;obtain⟨CA,F,rfl,bm⟩:=zj.form h.c;have HI:=hid (And.intro h.i1 h.i2);clear ha f h v ht;have bk:=Blk.new w 30 #[.slice DA s.dom.length G,.slice NA s.auths.length I,.slice ZA s.zones.length P,.slice CA s.cases.length F,.int .i64 s.signed,.int .i64 s.now];have ar:=zG w (.cells #[.slice DA s.dom.length G,.slice NA s.auths.length I,.slice ZA s.zones.length P,.slice CA s.cases.length F,.int .i64 s.signed,.int .i64 s.now] 30);go_enter func6,ntmps6
 go_upto_region 1 with fail
 generalize w.alloc _=w0 at*;have o:=hid bk;have i:=hid ar;clear bk ar;go_wp2_with fail
 refine(zQq w0 (ai _ i)).mono ?_;rintro e w1 ⟨rfl,f⟩;replace o:=hid (o.below f o.lt);replace i:=hid (zC i f);clear f;obtain⟨q0,J,q1,K,q2,L,q3,M,q4,N,q5,O,ql⟩:=o.out.d6;go_wp2_with fail
 refine(zSC (λb=>b<w1.heap.size) _ _ _ _ _ _ a b s w1 (af _ i) (ag _ i) (ah _ i) (λb f=>f)).mono ?_;rintro e w2 ⟨t,rfl,f,ae⟩;replace o:=hid (o.below f o.lt);replace i:=hid (zC i f);have HF:=hid ae;clear f ae q0 q1 q2 q3 q4 q5 J K L M N O ql
 cases t with
 |false=>
  go_wp2_with fail
  go_ret;exact⟨rfl,i⟩
 |true=>
 have HP:=hid (HF (by trivial));clear HF;obtain⟨q0,J,q1,K,q2,L,q3,M,q4,N,q5,O,ql⟩:=o.out.d6;go_wp2_with fail
 refine(zFO (λb=>b<w2.heap.size) _ _ _ _ _ _ a b s w2 (af _ i) (ag _ i) (ah _ i) (λb f=>f) (λm hm=>by have:=HP.fa m hm;omega) (λm hm=>by have:=HP.fb m hm;omega) (ai _ i)).mono ?_;rintro e u3 ⟨c3,p3,q3,r3,t3,rfl,A,k,n,f⟩;have x:=hid (show CoR (λb=>b<u3.heap.size) u3 c3 p3 q3 r3 t3 (zAO a b s).1 from⟨A.live.mono λb f=>f.2,k.at_.1.live.mono λb f=>f.2,k.at_.2.live.mono λb f=>f.2,n.at_.1.live.mono λb f=>f.2,n.at_.2.live.mono λb f=>f.2⟩);obtain⟨bi,bj,rfl,-⟩:=A.form;obtain⟨bu,bv,rfl,-⟩:=k.at_.1.form;obtain⟨bw,bx,rfl,-⟩:=k.at_.2.form;obtain⟨bz,b0,rfl,-⟩:=n.at_.1.form;obtain⟨b1,b2,rfl,-⟩:=n.at_.2.form;replace o:=hid (o.below f o.lt);replace i:=hid (zC i f);have D:=i;clear A k n f q0 q1 q2 q3 q4 q5 J K L M N O ql;obtain⟨X,hX⟩:∃c,zAO a b s=c:=⟨_,rfl⟩;rw[hX]at x;rw[hX];have ao:=hid hX;clear hX;simp only[zKX];go_upto_region 5 with(refine zN rfl 38 _ _ rfl rfl rfl (Blk.new _ _ _) rfl (by kernel_rfl) (by simp[Value.oneCell']) ?_;intro w3 B aw a3)
 have j:Below u3.heap.size u3 w3:=(zG u3 _).trans (z8 (aw.mono λb _(f:b<u3.heap.size)=>by omega) (by simp));replace o:=hid (o.below j o.lt);replace i:=hid (zC i j);replace x:=hid ((x.keep (.of_below j)).mono (Z':=λb=>b<w3.heap.size/\b≠u3.heap.size) λb v=>⟨Nat.lt_of_lt_of_le v j.size,Nat.ne_of_lt v⟩);have y:=hid B;have bo:=B.lt;have al:=hid (show w.heap.size<=u3.heap.size from by have:=D.size;exact this);clear B aw a3 j D;generalize u3.heap.size=B3 at*;obtain⟨q0,J,q1,K,q2,L,q3,M,q4,N,q5,O,ql⟩:=o.out.d6;go_wp2_with fail
 refine(zFO (λb=>b<w3.heap.size) _ _ _ _ _ _ b a s w3 (ag _ i) (af _ i) (ah _ i) (λb f=>f) (λm hm=>by have:=HP.fb m hm;omega) (λm hm=>by have:=HP.fa m hm;omega) (ai _ i)).mono ?_;rintro e u4 ⟨c4,p4,q4,r4,t4,rfl,A,k,n,f⟩;have C:=hid (show CoR (λb=>b<u4.heap.size) u4 c4 p4 q4 r4 t4 (zAO b a s).1 from⟨A.live.mono λb f=>f.2,k.at_.1.live.mono λb f=>f.2,k.at_.2.live.mono λb f=>f.2,n.at_.1.live.mono λb f=>f.2,n.at_.2.live.mono λb f=>f.2⟩);obtain⟨a1,a2,rfl,-⟩:=A.form;obtain⟨R,T,rfl,-⟩:=k.at_.1.form;obtain⟨U,V,rfl,-⟩:=k.at_.2.form;obtain⟨aa,ab,rfl,-⟩:=n.at_.1.form;obtain⟨ac,ad,rfl,-⟩:=n.at_.2.form;replace o:=hid (o.below f o.lt);replace i:=hid (zC i f);have D:=i;replace y:=hid (y.below f y.lt);replace x:=hid ((x.keep (.of_below f)).mono (Z':=λb=>b<u4.heap.size/\b≠B3) λb v=>⟨Nat.lt_of_lt_of_le v.1 f.size,v.2⟩);have ay:B3≠u4.heap.size:=Nat.ne_of_lt y.lt;clear A k n f q0 q1 q2 q3 q4 q5 J K L M N O ql;obtain⟨Y,hY⟩:∃c,zAO b a s=c:=⟨_,rfl⟩;rw[hY]at C;rw[hY];have ap:=hid hY;clear hY;simp only[zKX];go_upto_region 6 with(refine zN rfl 38 _ _ rfl rfl rfl (Blk.new _ _ _) rfl (by kernel_rfl) (by simp[Value.oneCell']) ?_;intro w4 ak ax a4)
 have j:Below u4.heap.size u4 w4:=(zG u4 _).trans (z8 (ax.mono λb _(f:b<u4.heap.size)=>by omega) (by simp));replace o:=hid (o.below j o.lt);replace i:=hid (zC i j);replace y:=hid (y.below j y.lt);replace x:=hid ((x.keep (.of_below j)).mono (Z':=λb=>b<w4.heap.size/\b≠B3/\b≠u4.heap.size) λb v=>⟨Nat.lt_of_lt_of_le v.1 j.size,v.2,Nat.ne_of_lt v.1⟩);replace C:=hid ((C.keep (.of_below j)).mono (Z':=λb=>b<w4.heap.size/\b≠u4.heap.size) λb v=>⟨Nat.lt_of_lt_of_le v j.size,Nat.ne_of_lt v⟩);have aj:=hid ak;have bp:=ak.lt;have al:=hid (show w.heap.size<=u4.heap.size from by have:=D.size;exact this);clear ak ax a4 j D;generalize u4.heap.size=u at*;have HN:zWh a b s:=zXG HP.c (by decide) (by have:=HP.d;omega);have HL:=hid (zVi HN);have Q:=hid (zVi HN.turn);rw[ao.out,ap.out]at HL Q;clear HN ao ap;obtain⟨X1,i3,e3⟩:=X;obtain⟨g,i4,e4⟩:=Y;dsimp only at*;by_cases h3:e3=0
 ·have h4:e4=0:=HL.1.1 h3;have a5:=HL.2.2 h3 h4;obtain⟨hi,rfl⟩:=a5;subst h3 h4 hi;clear HL Q;obtain⟨o0,a6,o1,a7,o2,a8,o3,a9,o4,ba,o5,bb,o6,bc,o7,bd,o8,bf,ol⟩:=aj.out.d9;go_upto_region 9 with fail
  have hk:zA (λb=>b≠u) w4 ((((((w4.setCell ⟨u,3,none⟩ (.int .i64 g.b.kind)).setCell ⟨u,4,none⟩ (.slice aa g.b.forbids.length ab)).setCell ⟨u,5,none⟩ (.slice ac g.b.blocks.length ad)).setCell ⟨u,6,none⟩ (.int .i64 g.a.kind)).setCell ⟨u,7,none⟩ (.slice R g.a.forbids.length T)).setCell ⟨u,8,none⟩ (.slice U g.a.blocks.length V)):=(((((((zA.refl _ _).setCell (λ_ h=>h rfl) _).setCell (λ_ h=>h rfl) _).setCell (λ_ h=>h rfl) _).setCell (λ_ h=>h rfl) _).setCell (λ_ h=>h rfl) _).setCell (λ_ h=>h rfl) _);have au:Blk ((((((w4.setCell ⟨u,3,none⟩ (.int .i64 g.b.kind)).setCell ⟨u,4,none⟩ (.slice aa g.b.forbids.length ab)).setCell ⟨u,5,none⟩ (.slice ac g.b.blocks.length ad)).setCell ⟨u,6,none⟩ (.int .i64 g.a.kind)).setCell ⟨u,7,none⟩ (.slice R g.a.forbids.length T)).setCell ⟨u,8,none⟩ (.slice U g.a.blocks.length V)) u 38 #[.int .i64 g.signed,.int .i64 g.now,.slice a1 g.cas.length a2,.int .i64 g.b.kind,.slice aa g.b.forbids.length ab,.slice ac g.b.blocks.length ad,.int .i64 g.a.kind,.slice R g.a.forbids.length T,.slice U g.a.blocks.length V]:=((((((aj.set_ 3 _).set_ 4 _).set_ 5 _).set_ 6 _).set_ 7 _).set_ 8 _);clear o0 o1 o2 o3 o4 o5 o6 o7 o8 a6 a7 a8 a9 ba bb bc bd bf ol;generalize ((((((w4.setCell ⟨u,3,none⟩ (.int .i64 g.b.kind)).setCell ⟨u,4,none⟩ (.slice aa g.b.forbids.length ab)).setCell ⟨u,5,none⟩ (.slice ac g.b.blocks.length ad)).setCell ⟨u,6,none⟩ (.int .i64 g.a.kind)).setCell ⟨u,7,none⟩ (.slice R g.a.forbids.length T)).setCell ⟨u,8,none⟩ (.slice U g.a.blocks.length V))=w5 at*;have B:=y.keep hk ay;have hx:=x.keep (hk.mono λb _ f=>f.2.2);have hy:=C.keep (hk.mono λb _ f=>f.2);have az:=hk.size;have aq:=hid (i.trans (z8 (hk.mono λb _(f:b<w.heap.size) e=>by have:=al.out;omega) i.size));have bn:(i3==i3)=true:=by simp
  go_wp2_with(first|refine zEi (by rfl) 38 (.tmp 8) rfl rfl B _ underlying38 rfl (by kernel_rfl) ?_ |refine zEi (by rfl) 38 (.tmp 11) rfl rfl au _ underlying38 rfl (by kernel_rfl) ?_);refine(zVo _ _ _ _ _ _ _ _ _ _ _ _ (zVh g) ⟨g.signed,g.now,g.cas,g.b,g.a⟩ w5 hx ⟨hy.c,hy.r,hy.t,hy.p,hy.q⟩ (λb f=>Nat.lt_of_lt_of_le f.1 az) (λb f=>Nat.lt_of_lt_of_le f.1 az)).mono ?_;rintro e w6 ⟨rfl,av⟩;rw[zWa];have a0:=hid (zC aq av);clear av hx hy B au hk aq;go_wp2_with fail
  go_ret;exact⟨rfl,a0⟩
 have h4:e4≠0:=λe=>h3 (HL.1.2 e)
 have j3:i3=false:=HL.2.1 h3;have j4:i4=false:=Q.2.1 h4;subst j3 j4;have k3:(e3==0)=false:=by simpa using h3
 have k4:(e4==0)=false:=by simpa using h4
 have k5:(e3 !=0)=true:=by simpa using h3
 clear HL Q x C y aj;go_wp2_with fail
 go_ret;exact⟨by simp[h3,h4],i⟩
end
section
open Go.ChangeShapes Go.WideShapes Go.ChangeAt
theorem zUy(os:Os)(c:os.Started)(H:Type)(enc:TypeId × Value->H):
  ReturnsInHanded {} Tryz.checked os 6 .any (λw args=>(Rows.equalTurnedSpec.pre enc prog Tryz.f6 [] false w args/\laidMetH prog zJW w)/\sizedMet enc prog Tryz.f6 (OpenSpec.ofChange Rows.equalTurnedSpec) false w args)
   (Rows.equalTurnedSpec.post enc prog Tryz.f6 false true false false):=by
 refine returnsInHanded_of_change_and (C:=Tryz.checked) (X:=λw _=>laidMetH prog zJW w) (λ_ _ _ M h=>h.of_heap M) own c (by kernel_rfl) func6
  (ChangeSpec.witness_shaped (enc:=enc) (C:=Tryz.checked) (os:=os) (X:=λw _=>laidMetH prog zJW w) false (World.doorLaid prog 62 os) #[.slice none 0 0,.slice none 0 0,.agg #[.slice none 0 0,.slice none 0 0,.slice none 0 0,.slice none 0 0,.int .i64 0,.int .i64 0]] 8 rfl (World.shaped_of_RefB (by kernel_rfl) (by kernel_rfl)) (by kernel_rfl) (by kernel_rfl) (by kernel_rfl) (zSa os _)) ?_
 intro W i args u F n b x _ f K _;have a:∀(j:Nat) t v,Tryz.f6.params[j]? =some t->args[j]? =some v->Value.okWide prog W .any i t v:=b;have m:=x;obtain⟨p,q,k,L,rfl,-,-⟩:=x;have o:DataW.TrodAll enc prog W 0 (λ_=>true) true Tryz.f6.params.toList args.toList u p:=k;have d:(DataW.weightsEach prog (Tryz.f6.params.toList++Rows.equalTurnedSpec.plain.varTypes prog) (u++F)).all (· <=reachBytes)=true:=f;clear k f b;obtain⟨rfl,rfl⟩:=trodVars_none L;simp only[List.append_nil]at m;have s:=o;rw[params6]at o a d;obtain⟨U,Z,d0,B,p0,q0,g,rfl,rfl,G,P⟩:=trodAll_cons o;obtain⟨V,aa,d1,D,p1,q1,rfl,rfl,rfl,I,Q⟩:=trodAll_cons P;obtain⟨Y,ab,d2,E,p2,q2,rfl,rfl,rfl,J,R⟩:=trodAll_cons Q;obtain⟨rfl,rfl,rfl⟩:=trodAll_nil R;obtain rfl:args=#[U,V,Y]:=by simpa using congrArg List.toArray g
 obtain⟨N,y⟩:=zSx (a 0 22 _ rfl rfl) G (zRZ d (j:=0) rfl rfl);obtain⟨O,z⟩:=zSx (a 1 22 _ rfl rfl) I (zRZ d (j:=1) rfl rfl);obtain⟨vd,va,vz,vc,T,rfl,A⟩:=zRm (a 2 30 _ rfl rfl) J (zRZ d (j:=2) rfl rfl);refine(zWN (zCf W) _ _ _ _ _ _ N O T W y z A (λ_ h=>h) (zOb K)).mono λe W' ⟨he,hb⟩=> ?_
 subst he;exact⟨_,rfl,zSb m s rfl rfl (by kernel_rfl) (by kernel_rfl) hb⟩
theorem zVS:(Rows.equalTurnedRow.inPlace==prog.inPlace 6)=true:=by kernel_rfl
theorem zUz:(Rows.equalTurnedRow.unfollowed==prog.unfollowed 6)=true:=by kernel_rfl
theorem zVA:(Rows.equalTurnedRow.recurses==prog.recurses 6)=true:=by kernel_rfl
theorem zVT:(Rows.equalTurnedRow.named==prog.varsNamed 6)=true:=by kernel_rfl
theorem zVU:joinedFacts prog 6 Tryz.f6 Rows.equalTurnedSpec Rows.equalTurnedRow=true:=
 zN6 (by kernel_rfl) laidOut zTi (by kernel_rfl) (by kernel_rfl) rfl zTj rfl zTk zVS zUz zVA zVT (by kernel_rfl) (by kernel_rfl) (by kernel_rfl) (by kernel_rfl) (by kernel_rfl) rfl (by kernel_rfl) (by kernel_rfl) (by kernel_rfl)
  zUH rfl zTl zTm zTn zUI rfl (by kernel_rfl) (by kernel_rfl) (by kernel_rfl)
theorem zVV:Rows.EqualTurnedSaid:=
 OpenClaim.holds_of_wide 6 Tryz.f6 rfl rfl rfl rfl rfl rfl rfl ⟨rfl,rfl,rfl,rfl,rfl⟩ rfl rfl rfl rfl rfl (by kernel_rfl) func6 zVU
  (of_decide_eq_true (by kernel_rfl)) (by unfold Func.isWrapper;rw[if_neg (of_decide_eq_false (by kernel_rfl))];exact⟨rfl,rfl⟩)
  (λc a H b _=>zUy c a H b)
theorem zVs:Rows.equalTurnedRow.wfByText (OpenSpec.ofChange Rows.equalTurnedSpec)=true:=by kernel_rfl
theorem zVt:prog.funcNamed "customhouse/customhouselaw33.EqualTurned" =some 6:=by kernel_rfl
theorem zVW:([22,22,30].all λu=> !prog.wantsStandIn u)=true:=by kernel_rfl
theorem zVb:false=Rows.equalTurnedRow.goesBy Tryz.pinned.checked.prog:=by kernel_rfl
theorem equalturned_card:Rows.EqualTurnedCardSaid:=
 Claim7.holds_tied_plain_at .later [] [.data,.data,.data,.sentinel,.sentinel] true (true,"b7c691893ac5ffd63a8a77a1c3b8b90599a3d2dc70d51f5bf9900650e53e98a9") true
  zVV (λ_ h=>by cases h) zVs (λ_ h=>by cases h) equalTurned_row_tie rfl ⟨rfl,rfl⟩ zUJ rfl
  (λf fn hf hfn=>by
   obtain rfl:f=6:=Option.some.inj (zVt.symm.trans hf) |>.symm;obtain rfl:fn=Tryz.f6:=(Option.some.inj (func6.symm.trans hfn)).symm
   exact⟨zTo,λj t ht=>by
    rw[params6]at ht;have hm:t∈[22,22,30]:=by simpa using Array.mem_of_getElem? ht
    exact(show prog.wantsStandIn t=false by simpa using List.all_eq_true.1 zVW t hm)⟩)
  zVb
end
end Go.Proofs.YtommaegelgilnaaGreatDoor
