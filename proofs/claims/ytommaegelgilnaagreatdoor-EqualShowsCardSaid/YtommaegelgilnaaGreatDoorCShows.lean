/- EqualShows: for every two lists and scene, whatever they are: the law returns true, and the arguments read behind the call as before it. Conditions: the row's own (the listed variables of Go's library read as its text lays them: the card ties them). -/
import Derived.Test.YtommaegelgilnaaGreatDoorM44
import Derived.Test.YtommaegelgilnaaGreatDoorCards
import Derived.Test.YtommaegelgilnaaGreatDoorTie
set_option linter.all false
namespace Go.Proofs.YtommaegelgilnaaGreatDoor
open Go.RowKit Go.Proofs.Tryz
set_option maxHeartbeats 8000000
set_option maxRecDepth 100000
variable {Z:zD}{c:List Int}{ds:List zE}{e:Int}{w:World}{x:zHQ}
theorem zXD(d:zT ds=true)(h:Fit ds c):fits ds c=true:=
 zTO d h.1 λj a b _=>by
  have:=h.2 j a;unfold inR;simp only[Bool.and_eq_true,decide_eq_true_eq];simpa[List.getD_eq_getElem?_getD,List.getElem?_eq_getElem a,List.getElem?_eq_getElem b]using this
section holds
variable {ds:List zE} {g:List zB}
end holds
section not_
variable {ds:List zE} {g:List zB}
end not_
section
variable {l a b:List zF} {s:zM} {sg now:Int} {c:List Int}
theorem zUo{i:Nat}(h:i<s.auths.length):zDb (zAv s sg now c) i=c:=by
 unfold zDb zAv;simp[h]
theorem zXF(h:zUO s)(e:0<=sg)(f:sg<=now)(g:now<=144001439)(j:fits s.dom c=true):zUO (zAv s sg now c):=
 ⟨h.n1,h.n6,h.z,by simp[zAv],h.d,λi b=>⟨(h.a i b).1,by rw[zUo (s:=s) b];exact j⟩,e,f,g⟩
theorem MOk.show_(h:MOk l s)(a:zUO (zAv s sg now c)):MOk l (zAv s sg now c):=⟨zD6.2 a,h.n,h.v,h.d⟩
theorem zWr{f:Fm}(a:fits ds c=true)(b:zBY ds f=0):zFl ds c f=evF ds c f:=by
 unfold zFl;rw[a,b];simp
theorem zUc{k:Int}{m:zF}(b:fits s.dom c=true)(d:zBY s.dom m.when_=0):z1 (zAv s sg now c) k m=(zFF s sg now k m&&evF s.dom c m.when_):=by
 unfold z1 zFF;by_cases h:placeOf s.auths m.auth<s.auths.length
 ·have a:=zUo (s:=s) (sg:=sg) (now:=now) (c:=c) h;rw[show(zAv s sg now c).auths =s.auths from rfl,a];show _=_;rw[show(zAv s sg now c).dom =s.dom from rfl,zWr b d];rfl
 ·rw[show(zAv s sg now c).auths =s.auths from rfl];simp[h]
theorem zWE(h:MOk l s)(d:fits s.dom c=true):zD3 l (zAv s sg now c)=l.filter (fbB l s sg now c):=by
 unfold zD3;rw[List.filter_filter];apply List.filter_congr;intro m e;have a:∀x∈l,zBY s.dom x.when_=0:=λx b=>(zLm (h.v x b)).2.2.2
 rw[zUc d (a m e)]
 have:zJZ l (zAv s sg now c) m=exB l s sg now c m:=by
  unfold zJZ exB;rw[List.any_filter];rw[Bool.eq_iff_iff,List.any_eq_true,List.any_eq_true];constructor
  ·rintro⟨x,b,h1⟩;rw[zUc d (a x b)]at h1;simp only[Bool.and_eq_true,decide_eq_true_eq]at h1;exact⟨x,b,by simp[h1.1.1,h1.1.2,h1.2]⟩
  ·rintro⟨x,b,h1⟩;simp only[Bool.and_eq_true,decide_eq_true_eq]at h1;exact⟨x,b,by rw[zUc d (a x b)];simp[h1.1,h1.2.1,h1.2.2]⟩
 rw[this];unfold fbB;cases zFF s sg now 1 m<;>cases evF s.dom c m.when_<;>cases exB l s sg now c m<;>rfl
theorem zWf(h:MOk l s)(a:fits s.dom c=true):zH7 l (zAv s sg now c)=l.filter (blB l s sg now c):=by
 unfold zH7;rw[List.filter_filter,zWE h a];apply List.filter_congr;intro m b;rw[zUc a (zLm (h.v m b)).2.2.2,List.any_filter];unfold blB
 have:(l.any λx=>fbB l s sg now c x&&decide (x.auth=m.target))=l.any λx=>decide (x.auth=m.target)&&fbB l s sg now c x:=by
  congr 1;funext x;rw[Bool.and_comm]
 rw[this];cases zFF s sg now 3 m<;>cases evF s.dom c m.when_<;>simp
theorem zU9{α:Type}{l:List α}{p:α->Bool}:l.filter p=[]↔l.any p=false:=by
 rw[List.filter_eq_nil_iff,List.any_eq_false]
theorem zVm(h:zFo l s sg now c=true):zHF l s sg now c=true:=by
 unfold zFo at h;rw[List.any_eq_true]at h;obtain⟨m,_,h⟩:=h;unfold blB at h;simp only[Bool.and_eq_true]at h;have a:=h.2.2;rw[List.any_eq_true]at a;obtain⟨x,d,b⟩:=a;rw[Bool.and_eq_true]at b;unfold zHF;rw[List.any_eq_true];exact⟨x,d,b.2⟩
theorem zWF(h:MOk l s)(d:fits s.dom c=true):(zKx l (zAv s sg now c)).kind =if zHF l s sg now c=false then 1 else if zFo l s sg now c=false then 2 else 3:=by
 unfold zKx;rw[zWE h d,zWf h d];by_cases a:zHF l s sg now c=false
 ·rw[if_pos a,if_pos (zU9.2 a)]
 ·rw[if_neg a,if_neg (λe=>a (zU9.1 e))];by_cases b:zFo l s sg now c=false
  ·rw[if_pos b,if_pos (zU9.2 b)]
  ·rw[if_neg b,if_neg (λe=>b (zU9.1 e))]
theorem zWG(g:MOk a s)(h:MOk b s)(d:fits s.dom c=true):(zKx a (zAv s sg now c)).kind ≠(zKx b (zAv s sg now c)).kind ↔zIG a b s sg now c=true:=by
 rw[zWF g d,zWF h d];have e:=zVm (l:=a) (s:=s) (sg:=sg) (now:=now) (c:=c);have f:=zVm (l:=b) (s:=s) (sg:=sg) (now:=now) (c:=c);unfold zIG;revert e f;cases zHF a s sg now c<;>cases zHF b s sg now c<;>cases zFo a s sg now c<;>cases zFo b s sg now c<;>simp
end
section
open Go.Shelf
theorem zVZ(Z Z':zD)(v J:Value)(xs ys:List ByteArray)(w:World)(B:Names Z w v xs)(C:Names Z' w J ys):
  Calls prog 54 #[v,J] w λe w'=>e= .returned (.bool (decide (xs=ys)))/\Below w.heap.size w w':=by
 obtain⟨A,N,rfl,-,-,U⟩:=B.form;obtain⟨X,F,rfl,-,-,V⟩:=C.form;have L:=hid B;have M:=hid C;clear B C;go_enter func54,ntmps54
 by_cases t:xs.length=ys.length
 ·have O:((xs.length:Int)!=(ys.length:Int))=false:=by simp[t]
  have E:=hid t;clear t;go_wp2;go_loopw[5] (λi wr=>∃k:Nat,k<=xs.length/\i= .int .i64 k/\Below w.heap.size w wr/\Hid (xs.take k=ys.take k)) (λi _=>xs.length-(intOf i).toNat);case atStart=>exact⟨0,Nat.zero_le _,rfl,Below.refl _ _,by simp[Hid]⟩
  case round=>
   obtain⟨k,hk,rfl,a,c⟩:=hrel;by_cases n:k<xs.length
   ·(have f:k<ys.length:=by rw[<-E.out];exact n);obtain⟨b,W,rfl,-,G,z⟩:=L.at_ n;obtain⟨Y,I,rfl,-,s,m⟩:=M.at_ f;replace z:=brd a z G;replace m:=brd a m s;have P:=lt_of_cell z;have H:=lt_of_cell m;have j:=hid (λe=>zIy n f c e);have g:=hid (show xs[k]≠ys[k]->xs≠ys from λh e=>h (by subst e;rfl));(have R:((k:Nat):Int)<(xs.length:Int):=by omega);(have T:((k:Nat):Int)<(ys.length:Int):=by omega);(have Q:(0:Int)<=((k:Nat):Int):=by omega);have D:=hid a;clear a G s c;generalize xs[k]=x at*;generalize ys[k]=y at*;by_cases d:x=y
    ·have q:=hid (j d);subst d;clear j g;go_wp2;go_quiet(fail);go_wp2;go_roundw;(case rel=>exact⟨k+1,by omega,by go_num,below_drewN' D _,q⟩);case measure=>simp[intOf];omega
    ·(have e2:(x.toList==y.toList)=false:=by rw[zBK];simp[d]);have o:=hid (g d);clear j g;go_wp2;go_quiet(fail);go_wp2;go_ret;rw[decide_eq_false o.out];exact⟨rfl,below_drewN' D _⟩
   ·(obtain rfl:k=xs.length:=by omega);have u:=hid (show xs=ys from by have h:=c.out;rw[List.take_length]at h;rw[h,E.out,List.take_length]);clear c;go_wp2;go_ret;rw[decide_eq_true u.out];exact⟨rfl,a⟩
 ·have O:((xs.length:Int)!=(ys.length:Int))=true:=by simp;omega
  have K:=hid (show xs≠ys from λe=>t (by rw[e]));clear t;go_wp2;go_ret;rw[decide_eq_false K.out];exact⟨rfl,Below.refl _ _⟩
def zU8(x y:zGL):Bool:=decide (x.kind=y.kind)&&decide (x.forbids=y.forbids)&&decide (x.blocks=y.blocks)
theorem zUh(Z Z':zD)(p q r t:Value)(x y:zGL)(w:World)(hp:Names Z w p x.forbids)(hq:Names Z w q x.blocks)(hr:Names Z' w r y.forbids)(ht:Names Z' w t y.blocks)(hz:∀b,Z b->b<w.heap.size)(j:∀b,Z' b->b<w.heap.size):
  Calls prog 18 #[.agg #[.int .i64 x.kind,p,q],.agg #[.int .i64 y.kind,r,t]] w λe w'=>e= .returned (.bool (zU8 x y))/\Below w.heap.size w w':=by
 have C:=hid (λW(u:Below w.heap.size w W)=>zVZ Z Z' p r _ _ W (hp.keep (.of_below_lt u λb _ i=>hz b i)) (hr.keep (.of_below_lt u λb _ i=>j b i)));have D:=hid (λW(u:Below w.heap.size w W)=>zVZ Z Z' q t _ _ W (hq.keep (.of_below_lt u λb _ i=>hz b i)) (ht.keep (.of_below_lt u λb _ i=>j b i)));obtain⟨J,K,rfl,-⟩:=hp.form;obtain⟨L,M,rfl,-⟩:=hq.form;obtain⟨N,O,rfl,-⟩:=hr.form;obtain⟨P,Q,rfl,-⟩:=ht.form;clear hp hq hr ht hz j;have g:=hid (show zU8 x y=(decide (x.kind=y.kind)&&decide (x.forbids=y.forbids)&&decide (x.blocks=y.blocks)) from rfl);obtain⟨fb,z⟩:∃t,decide (x.forbids=y.forbids)=t:=⟨_,rfl⟩;obtain⟨gb,A⟩:∃t,decide (x.blocks=y.blocks)=t:=⟨_,rfl⟩;rw[z]at C g;rw[A]at D g;clear z A;generalize zU8 x y=sv at*;obtain⟨d,xf,xb⟩:=x;obtain⟨f,yf,yb⟩:=y;simp only at C D g;generalize xf.length=T at*;generalize xb.length=R at*;generalize yf.length=V at*;generalize yb.length=U at*;have H:=Blk.newE (n:=w.heap.size) w 36 #[.int .i64 d,.slice J T K,.slice L R M] rfl;have B:=zCX w (.cells #[.int .i64 d,.slice J T K,.slice L R M] 36) (.cells #[.int .i64 f,.slice N V O,.slice P U Q] 36);have s:=Blk.newE (n:=w.heap.size+1) (w.alloc (.cells #[.int .i64 d,.slice J T K,.slice L R M] 36)) 36 #[.int .i64 f,.slice N V O,.slice P U Q] (by simp);have H:=H.alloc (.cells #[.int .i64 f,.slice N V O,.slice P U Q] 36);go_enter func18,ntmps18
 go_upto_region 1 with fail
 generalize (w.alloc _).alloc _=w0 at*;have F:=hid H;have G:=hid s;have E:=hid B;clear H s B;obtain⟨a0,aa,a1,ab,a2,ac,al⟩:=F.out.d3;obtain⟨b0,ad,b1,ae,b2,af,bl⟩:=G.out.d3;by_cases I:d=f
 ·have a:decide (d=f)=true:=decide_eq_true I;have k:=hid (C w0 E);subst I;clear C;go_wp2_with fail
  refine k.mono ?_;rintro e w2 ⟨rfl,c⟩;have h:=hid (zC E c);have X:=hid (F.below c F.lt);have Y:=hid (G.below c G.lt);clear c k F G E;obtain⟨a0,aa,a1,ab,a2,ac,al⟩:=X.out.d3;obtain⟨b0,ad,b1,ae,b2,af,bl⟩:=Y.out.d3
  cases fb with
  |true=>
   have m:=hid (D w2 h);clear D;(go_wp2_with fail);refine m.mono ?_;rintro e w3 ⟨rfl,v⟩;have o:=hid (zC h v);clear v m
   cases gb with
   |true=>
    (go_wp2_with fail);go_ret;exact⟨by rw[g.out,a];rfl,o⟩
   |false=>
    (go_wp2_with fail);go_ret;exact⟨by rw[g.out,a];rfl,o⟩
  |false=>
   (go_wp2_with fail);go_ret;exact⟨by rw[g.out,a];rfl,h⟩
 ·have a:decide (d=f)=false:=decide_eq_false I;have e1:(d==f)=false:=by simpa using I
  go_wp2_with fail
  go_ret;exact⟨by rw[g.out,a];rfl,E⟩
end
section
open Go.Shelf
def zUt(x y:zHQ):Bool:=decide (x.signed=y.signed)&&decide (x.now=y.now)&&decide (x.cas=y.cas)&&zU8 x.a y.a&&zU8 x.b y.b
theorem CoR.keep{w w':World}{b p q r t:Value}(h:CoR Z w b p q r t x)(a:zA Z w w'):CoR Z w' b p q r t x:=⟨h.c.keep a,h.p.keep a,h.q.keep a,h.r.keep a,h.t.keep a⟩
theorem CoR.mono{Z Z':zD}{d p q r t:Value}(h:CoR Z w d p q r t x)(a:∀b,Z b->Z' b):CoR Z' w d p q r t x:=⟨h.c.mono a,h.p.mono a,h.q.mono a,h.r.mono a,h.t.mono a⟩
theorem CoR.zero(Z:zD)(w:World):CoR Z w (.slice none 0 0) (.slice none 0 0) (.slice none 0 0) (.slice none 0 0) (.slice none 0 0) zCa:=⟨zO.nil _ _,Names.nil,Names.nil,Names.nil,Names.nil⟩
theorem zVo(Z Z':zD)(vc p q r t V p' q' r' t':Value)(x y:zHQ)(w:World)(h:CoR Z w vc p q r t x)(i:CoR Z' w V p' q' r' t' y)(R:∀b,Z b->b<w.heap.size)(f:∀b,Z' b->b<w.heap.size):
  Calls prog 14 #[.agg #[.int .i64 x.signed,.int .i64 x.now,vc,.int .i64 x.a.kind,p,q,.int .i64 x.b.kind,r,t],.agg #[.int .i64 y.signed,.int .i64 y.now,V,.int .i64 y.a.kind,p',q',.int .i64 y.b.kind,r',t']] w λe w'=>e= .returned (.bool (zUt x y))/\Below w.heap.size w w':=by
 have HF:=hid (λW(g:Below w.heap.size w W)=>zSo Z Z' vc V _ _ W (h.c.keep (.of_below_lt g λb _ d=>R b d)) (i.c.keep (.of_below_lt g λb _ d=>f b d)));have HG:=hid (λW(g:Below w.heap.size w W)=>zUh Z Z' p q p' q' x.a y.a W (h.p.keep (.of_below_lt g λb _ d=>R b d)) (h.q.keep (.of_below_lt g λb _ d=>R b d)) (i.p.keep (.of_below_lt g λb _ d=>f b d)) (i.q.keep (.of_below_lt g λb _ d=>f b d)) (λb d=>Nat.lt_of_lt_of_le (R b d) g.size) (λb d=>Nat.lt_of_lt_of_le (f b d) g.size));have HH:=hid (λW(g:Below w.heap.size w W)=>zUh Z Z' r t r' t' x.b y.b W (h.r.keep (.of_below_lt g λb _ d=>R b d)) (h.t.keep (.of_below_lt g λb _ d=>R b d)) (i.r.keep (.of_below_lt g λb _ d=>f b d)) (i.t.keep (.of_below_lt g λb _ d=>f b d)) (λb d=>Nat.lt_of_lt_of_le (R b d) g.size) (λb d=>Nat.lt_of_lt_of_le (f b d) g.size));obtain⟨c1,c2,rfl,-⟩:=h.c.form;obtain⟨d1,d2,rfl,-⟩:=i.c.form;obtain⟨p1,p2,rfl,-⟩:=h.p.form;obtain⟨q1,q2,rfl,-⟩:=h.q.form;obtain⟨r1,r2,rfl,-⟩:=h.r.form;obtain⟨t1,t2,rfl,-⟩:=h.t.form;obtain⟨p3,p4,rfl,-⟩:=i.p.form;obtain⟨q3,q4,rfl,-⟩:=i.q.form;obtain⟨r3,r4,rfl,-⟩:=i.r.form;obtain⟨t3,t4,rfl,-⟩:=i.t.form;clear h i R f;have j:=hid (show zUt x y=(decide (x.signed=y.signed)&&decide (x.now=y.now)&&decide (x.cas=y.cas)&&zU8 x.a y.a&&zU8 x.b y.b) from rfl);obtain⟨fb,af⟩:∃t,decide (x.cas=y.cas)=t:=⟨_,rfl⟩;obtain⟨gb,ag⟩:∃t,zU8 x.a y.a=t:=⟨_,rfl⟩;obtain⟨ib,ah⟩:∃t,zU8 x.b y.b=t:=⟨_,rfl⟩;rw[af]at HF j;rw[ag]at HG j;rw[ah]at HH j;clear af ag ah;generalize zUt x y=sv at*;obtain⟨Y,X,xc,⟨xk,xf,xb⟩,⟨xl,xg,xh⟩⟩:=x;obtain⟨ys,yn,yc,⟨yk,yf,yb⟩,⟨yl,yg,yh⟩⟩:=y;simp only at HF HG HH j;generalize xc.length=n1 at*;generalize yc.length=n2 at*;generalize xf.length=n3 at*;generalize yf.length=n4 at*;generalize xb.length=n5 at*;generalize yb.length=n6 at*;generalize xg.length=n7 at*;generalize yg.length=n8 at*;generalize xh.length=n9 at*;generalize yh.length=Q at*;have ai:=zCX w (.cells #[.int .i64 Y,.int .i64 X,.slice c1 n1 c2,.int .i64 xk,.slice p1 n3 p2,.slice q1 n5 q2,.int .i64 xl,.slice r1 n7 r2,.slice t1 n9 t2] 38) (.cells #[.int .i64 ys,.int .i64 yn,.slice d1 n2 d2,.int .i64 yk,.slice p3 n4 p4,.slice q3 n6 q4,.int .i64 yl,.slice r3 n8 r4,.slice t3 Q t4] 38);have bx:=(Blk.newE (n:=w.heap.size) w 38 #[.int .i64 Y,.int .i64 X,.slice c1 n1 c2,.int .i64 xk,.slice p1 n3 p2,.slice q1 n5 q2,.int .i64 xl,.slice r1 n7 r2,.slice t1 n9 t2] rfl).alloc (.cells #[.int .i64 ys,.int .i64 yn,.slice d1 n2 d2,.int .i64 yk,.slice p3 n4 p4,.slice q3 n6 q4,.int .i64 yl,.slice r3 n8 r4,.slice t3 Q t4] 38);have ad:=Blk.newE (n:=w.heap.size+1) (w.alloc (.cells #[.int .i64 Y,.int .i64 X,.slice c1 n1 c2,.int .i64 xk,.slice p1 n3 p2,.slice q1 n5 q2,.int .i64 xl,.slice r1 n7 r2,.slice t1 n9 t2] 38)) 38 #[.int .i64 ys,.int .i64 yn,.slice d1 n2 d2,.int .i64 yk,.slice p3 n4 p4,.slice q3 n6 q4,.int .i64 yl,.slice r3 n8 r4,.slice t3 Q t4] (by simp);go_enter func14,ntmps14
 go_upto_region 1 with fail
 generalize (w.alloc _).alloc _=w0 at*;have HX:=hid bx;have HY:=hid ad;have HW:=hid ai;clear bx ad ai;obtain⟨a0,s,a1,u,a2,v,a3,z,a4,A,a5,B,a6,C,a7,D,a8,E,al⟩:=HX.out.d9;obtain⟨b0,F,b1,G,b2,H,b3,I,b4,J,b5,K,b6,L,b7,M,b8,N,bl⟩:=HY.out.d9;by_cases hk:Y=ys
 ·subst hk;by_cases U:X=yn
  ·subst U;have aa:=hid (HF w0 HW);clear HF;(go_wp2_with fail);refine aa.mono ?_;rintro e w2 ⟨rfl,O⟩;have k:=hid (zC HW O);have m:=hid (HX.below O HX.lt);have o:=hid (HY.below O HY.lt);clear a0 s a1 u a2 v a3 z a4 A a5 B a6 C a7 D a8 E b0 F b1 G b2 H b3 I b4 J b5 K b6 L b7 M b8 N al bl;clear O aa HX HY HW;obtain⟨a0,s,a1,u,a2,v,a3,z,a4,A,a5,B,a6,C,a7,D,a8,E,al⟩:=m.out.d9;obtain⟨b0,F,b1,G,b2,H,b3,I,b4,J,b5,K,b6,L,b7,M,b8,N,bl⟩:=o.out.d9
   cases fb with
   |true=>
    have ab:=hid (HG w2 k);clear HG;(go_wp2_with fail);refine ab.mono ?_;rintro e w3 ⟨rfl,P⟩;have T:=hid (zC k P);have ao:=hid (m.below P m.lt);have ap:=hid (o.below P o.lt);clear a0 s a1 u a2 v a3 z a4 A a5 B a6 C a7 D a8 E b0 F b1 G b2 H b3 I b4 J b5 K b6 L b7 M b8 N al bl;clear P ab m o k;obtain⟨a0,s,a1,u,a2,v,a3,z,a4,A,a5,B,a6,C,a7,D,a8,E,al⟩:=ao.out.d9;obtain⟨b0,F,b1,G,b2,H,b3,I,b4,J,b5,K,b6,L,b7,M,b8,N,bl⟩:=ap.out.d9
    cases gb with
    |true=>
     have ac:=hid (HH w3 T);clear HH;(go_wp2_with fail);refine ac.mono ?_;rintro e w4 ⟨rfl,ae⟩;have ak:=hid (zC T ae);clear ae ac;(go_wp2_with fail);go_ret;exact⟨by rw[j.out];simp,ak⟩
    |false=>
     (go_wp2_with fail);go_ret;exact⟨by rw[j.out];simp,T⟩
   |false=>
    (go_wp2_with fail);go_ret;exact⟨by rw[j.out];simp,k⟩
  ·have aj:=hid U;(have e1:(X==yn)=false:=by simpa using U);(go_wp2_with fail);go_ret;exact⟨by rw[j.out,decide_eq_false aj.out];simp,HW⟩
 ·have HK:=hid hk;have e1:(Y==ys)=false:=by simpa using hk
  go_wp2_with fail
  go_ret;exact⟨by rw[j.out,decide_eq_false HK.out];rfl,HW⟩
end
section
open Go.Shelf
theorem Tryz.eCase:zC2 prog 34 1 24:=zDH (z:= .slice none 0 0) (by kernel_rfl) rfl (by decide)
theorem zXC{base n:Nat}{t:TypeId}{v cv:Value}(h:w.ownsRow base t 1 v n (List.replicate n cv))(f:zO Z w cv c)(k:n<=1000)(i:∀b,v.ownBlock=some b->Z b):zDK Z w v (List.replicate n c):=by
 rcases h.2 with⟨rfl,h0⟩|⟨g,cap,cur,rfl,hb,hg,hn2,hm,hsz,htk⟩
 ·subst h0;exact zj.nil
 ·have e:∀m a,a+m=n->zAW (zFC Z w) 1 Z w (List.replicate m c) (some ⟨g,a,none⟩):=by
   intro m
   induction m with
   |zero=>intro a _;trivial
   |succ m ih=>
    intro a o;rw[List.replicate_succ];refine⟨g,a,[cv],rfl,i g rfl,λj u d=> ?_,⟨cv,rfl,f⟩,ih (a+1) (by omega)⟩
    cases j with
    |zero=>
     have:=h.cells (g:=g) rfl a cv (by rw[List.getElem?_replicate,if_pos (by omega)]);simp only[List.getElem?_cons_zero,Option.some.injEq]at d;subst d;rwa[show(⟨g,0,none⟩:Addr).add a=⟨g,a+0,none⟩ from by unfold Addr.add;split<;>simp_all]at this
    |succ j=>simp at d
  exact⟨some ⟨g,0,none⟩,cap,by simp,by simpa using hn2,by simpa[maxLen]using hm,by simp;omega,e n 0 (by omega)⟩
structure zXJ (w wr:World) (vd va vz vc cv v:Value) (s:zM) (sg nw:Int) (k:Nat):Prop where
 sb:Blk wr w.heap.size 30 #[vd,va,vz,vc,.int .i64 s.signed,.int .i64 s.now]
 rb:Blk wr (w.heap.size+1) 30 #[.slice none 0 0,.slice none 0 0,.slice none 0 0,.slice none 0 0,.int .i64 0,.int .i64 0]
 ob:Blk wr (w.heap.size+1+1) 30 #[vd,va,vz,v,.int .i64 sg,.int .i64 nw]
 own:wr.ownsRow w.heap.size 34 1 v k (List.replicate k cv)
 be:Below w.heap.size w wr
theorem zXJ.push{w wr m:World}{vd q u t cv v a:Value}{s:zM}{sg nw:Int}{k:Nat}{o:Obj}(h:zXJ w wr vd q u t cv v s sg nw k)(g:(wr.alloc o).grownBy m v.ownBlock)
  (z:m.ownsRow w.heap.size 34 1 a (k+1) (List.replicate k cv++[cv]))(i:a.ownBlock=v.ownBlock\/a.ownBlock=some (wr.alloc o).heap.size):
  zXJ w (m.setCell ⟨w.heap.size+1+1,3,none⟩ a) vd q u t cv a s sg nw (k+1):=by
 have hF:=h.ob.lt;have j:(wr.alloc o).heap.size =wr.heap.size+1:=by simp
 have c:v.ownBlock≠some (w.heap.size+1+1):=zHm h.ob h.own (by decide)
 have d:a.ownBlock≠some (w.heap.size+1+1):=by
  rcases i with e|e
  ·rw[e];exact c
  ·rw[e,j];intro n;injection n with n;omega
 refine⟨((h.sb.alloc o).grown g (zHm h.sb h.own (by decide))).far (by show w.heap.size≠w.heap.size+1+1;omega) _,((h.rb.alloc o).grown g (zHm h.rb h.own (by decide))).far (by show w.heap.size+1≠w.heap.size+1+1;omega) _,((h.ob.alloc o).grown g c).set_ 3 _,?_,?_⟩
 ·have f:=zXL (Z:=λb=>b≠w.heap.size+1+1) z ((zA.refl _ _).setCell (p:=⟨w.heap.size+1+1,3,none⟩) (λ_ h=>h rfl) a) (λk y e=>d (by rw[y,e]));rw[List.replicate_succ'];exact f
 ·have f:Below w.heap.size w (wr.alloc o):=h.be.alloc h.be.size o;have x:(wr.alloc o).ownsRow w.heap.size 34 1 v k (List.replicate k cv):=h.own.alloc o;exact(zAs f x g f.size (Nat.le_refl _)).setCell (p:=⟨w.heap.size+1+1,3,none⟩) (by show w.heap.size<=w.heap.size+1+1;omega) a
theorem zVp(Z:zD)(vd Q R vc cv:Value)(s:zM)(sg nw:Int)(c:List Int)(w:World)(h:zBq Z w vd Q R vc s)(X:zO Z w cv c)(hz:∀b,Z b->b<w.heap.size)(hn:s.auths.length<=1000)(i1:I64 sg)(i2:I64 nw):
  Calls prog 15 #[.agg #[vd,Q,R,vc,.int .i64 s.signed,.int .i64 s.now],.int .i64 sg,.int .i64 nw,cv] w λe w'=>∃v,e= .returned (.agg #[vd,Q,R,v,.int .i64 sg,.int .i64 nw])/\zBq (λb=>Z b\/(w.heap.size<=b/\b<w'.heap.size)) w' vd Q R v (zAv s sg nw c)/\Below w.heap.size w w':=by
 have N:=hid (And.intro h (And.intro X (And.intro i1 i2)));have HZ:=hid hz;obtain⟨G,i,rfl⟩:∃T A,vd= .slice T s.dom.length A:=by obtain⟨⟨T,A,e,_⟩,_⟩:=h.d;exact⟨T,A,e⟩
 obtain⟨H,j,rfl,-,-,af⟩:=h.a.form;obtain⟨I,m,rfl,ai⟩:=zj.form h.z;obtain⟨O,x,rfl,ac⟩:=zj.form h.c;obtain⟨J,q,rfl,-⟩:=X.form;clear h X hz i1 i2;go_enter func15,ntmps15
 go_upto_region 2 with fail
 have HC:=hid (show zXJ w (((w.alloc (.cells #[.slice G s.dom.length i,.slice H s.auths.length j,.slice I s.zones.length m,.slice O s.cases.length x,.int .i64 s.signed,.int .i64 s.now] 30)).alloc (.cells #[.slice none 0 0,.slice none 0 0,.slice none 0 0,.slice none 0 0,.int .i64 0,.int .i64 0] 30)).alloc (.cells #[.slice G s.dom.length i,.slice H s.auths.length j,.slice I s.zones.length m,.slice none 0 0,.int .i64 sg,.int .i64 nw] 30)) (.slice G s.dom.length i) (.slice H s.auths.length j) (.slice I s.zones.length m) (.slice O s.cases.length x) (.slice J c.length q) (.slice none 0 0) s sg nw 0 from
  ⟨((Blk.new w _ _).alloc _).alloc _,(Blk.new' _ _ _ (by simp)).alloc _,Blk.new' _ _ _ (by simp),World.ownsRow_nil _ _ _ _,(((Below.refl _ _).alloc (Nat.le_refl _) _).alloc (by simp) _).alloc (by simp;omega) _⟩)
 generalize ((w.alloc _).alloc _).alloc _=w0 at*;go_wp2_with fail
 go_loopw[10] (λiv wr=>∃(k:Nat)(v:Value),k<=s.auths.length/\iv= .int .i64 k/\zXJ w wr (.slice G s.dom.length i) (.slice H s.auths.length j) (.slice I s.zones.length m) (.slice O s.cases.length x) (.slice J c.length q) v s sg nw k) (λiv _=>s.auths.length-(intOf iv).toNat);case atStart=>exact⟨0,_,Nat.zero_le _,rfl,HC⟩
 case round=>
  obtain⟨k,v,P,rfl,f⟩:=hrel;clear HC;obtain⟨RA,C,hv,-,-,-⟩:=Row.of_own f.own (by decide);subst hv;have n:=hid f;have s1:=f.sb.at1;have sl:=f.sb.lt;by_cases ae:k<s.auths.length
  ·have o3:=f.ob.at3;have ol:=f.ob.lt;have ah:=f.be.size;(have ad:((k:Nat):Int)<(s.auths.length:Int):=by omega);have K:=hid (λ(w5:World)(o:Obj)(hg:(wr.alloc o).grownBy w5 (Value.slice RA k C).ownBlock)=>(f.ob.alloc o).grown hg (zHm f.ob f.own (by decide)));clear f;go_wp2_with(at_builtin;refine zh rfl (.tmp 28) (.tmp 30) _ rfl underlying28 Tryz.eCase rfl (n.own.alloc _) rfl (news:=[.slice J c.length q]) rfl (zNR (cs:=[.slice J c.length q]) (t:=34) (g:=wr.heap.size) (Blk.new wr 34 #[.slice J c.length q])) (by simp[Value.oneCell']) (by unfold maxLen;omega) (by omega) (by simp;omega) ?_;intro v5 w5 u F B;obtain⟨g5,ab,aa⟩:=zBc u;subst aa;have D:=K _ _ F;have d4:=D.at3;have d5:=D.frozen 3;have d6:=D.lt);have HN:=hid (n.push F u B);clear u F B n K;(go_wp2_with fail);go_roundw;(case rel=>exact⟨k+1,_,by omega,by go_num,HN⟩);case measure=>simp[intOf];omega
  ·(obtain rfl:k=s.auths.length:=by omega);have U:=f.ob;have V:=f.rb;go_wp2_with(first|refine zDq rfl 30 (.tmp 9) rfl rfl U _ underlying30 rfl (by kernel_rfl) ?_ |(refine zN rfl 30 _ _ rfl rfl rfl V rfl (by kernel_rfl) (by simp[Value.oneCell']) ?_;intro w7 W L ag));refine bodyPost_ret (zHl rfl rfl (run_loadVar_row w7 _ 30 30 _ (0,0) _ W underlying30 rfl (by kernel_rfl))) rfl ?_
   have Y:zA (λb=>b<w.heap.size\/∃k,(Value.slice RA s.auths.length C).ownBlock =some k/\b=k) wr w7:=L.mono λb _ y e=>by
    rcases y with y|⟨k,P,rfl⟩
    ·omega
    ·exact zHm n.rb n.own (by decide) (by rw[P,e])
   have M:=zXL n.own Y (λk P=> .inr ⟨k,P,rfl⟩);have E:Below w.heap.size w w7:=n.be.trans (z8 (L.mono λb _(y:b<w.heap.size)=>by omega) n.be.size);refine⟨_,rfl,zQp (N.1.keep (.of_below_lt E λb _ y=>HZ b y)) (λb y=> .inl y) (zXC M ((N.2.1.keep (.of_below_lt E λb _ y=>HZ b y)).mono λb y=> .inl y) hn (λb y=> .inr (M.lt b y))) N.2.2.1 N.2.2.2,E⟩
end
section
variable {l a b:List zF} {s:zM} {sg now:Int} {c:List Int}
theorem zWk(h:zAO a b s=(x,true,e)):
  e=0/\zCR (zAv s x.signed x.now x.cas)=true/\zP a (zAv s x.signed x.now x.cas)=(x.a,0)/\zP b (zAv s x.signed x.now x.cas)=(x.b,0)/\x.a.kind≠x.b.kind:=by
 have y:=(zMx (a:=a) (b:=b) (s:=s)).1;rw[h]at y;obtain⟨w,k,q,⟨⟨D,B,o,-⟩,i,c,-,f,g⟩⟩:=y rfl;dsimp only at w o i c f g;have A:=zD6.1 k.p;have C:(x.signed,x.now)∈zx (zDL a b s):=by rw[o];simp
 obtain⟨t,u,v⟩:=(zLN (zM6 a b s)).1 C;have z:=zXD A.d i;have j:=zXF (sg:=x.signed) (now:=x.now) A (zOA k q t).1 v (zOA k q u).2 z;have m:=zUb (k.show_ j);have n:=zUb (q.show_ j);rw[m]at f;rw[n]at g;dsimp only at f g;refine⟨w,zD6.2 j,by rw[m,f],by rw[n,g],?_⟩;rw[f,g];exact(zWG k q z).2 c
theorem zWy(h:zAO a b s=(x,false,e)):x=zCa:=by
 have c:=(zMx (a:=a) (b:=b) (s:=s)).2;rw[h]at c;exact(c rfl).1
end
section
open Go.Shelf
theorem zUf(x:zGL):zU8 x x=true:=by simp[zU8]
theorem zWP(Z:zD)(la lb vd va vz vc:Value)(a b:List zF)(s:zM)(w:World)(ha:zn Z w la a)(f:zn Z w lb b)(h:zBq Z w vd va vz vc s)(i:∀b,Z b->b<w.heap.size)(ht:zBr w.heap.size w):
  Calls prog 4 #[la,lb,.agg #[vd,va,vz,vc,.int .i64 s.signed,.int .i64 s.now]] w λe w'=>e= .returned (.bool true)/\Below w.heap.size w w':=by
 have a8:=hid (λW(hW:Below w.heap.size w W)=>(ht.on hW).mono hW.size);have a4:=hid (λW(hW:Below w.heap.size w W)=>(h.keep (show zA Z w W from .of_below_lt hW λb _ f=>i b f)).mono (Z':=λb=>b<W.heap.size) λb f=>Nat.lt_of_lt_of_le (i b f) hW.size);have a2:=hid (λW(hW:Below w.heap.size w W)=>zn.mono (zn.keep ha (show zA Z w W from .of_below_lt hW λb _ f=>i b f)) (Z':=λb=>b<W.heap.size) λb f=>Nat.lt_of_lt_of_le (i b f) hW.size);have a3:=hid (λW(hW:Below w.heap.size w W)=>zn.mono (zn.keep f (show zA Z w W from .of_below_lt hW λb _ f=>i b f)) (Z':=λb=>b<W.heap.size) λb f=>Nat.lt_of_lt_of_le (i b f) hW.size);obtain⟨LA,bp,rfl,ce⟩:=zj.form ha;obtain⟨LB,bq,rfl,cf⟩:=zj.form f;obtain⟨DA,ar,rfl⟩:∃A2 ap,vd= .slice A2 s.dom.length ap:=by obtain⟨⟨A2,ap,e,_⟩,_⟩:=h.d;exact⟨A2,ap,e⟩
 obtain⟨NA,ax,rfl,-,-,cg⟩:=h.a.form;obtain⟨ZA,az,rfl,ch⟩:=zj.form h.z;obtain⟨CA,aq,rfl,ca⟩:=zj.form h.c;have HI:=hid (And.intro h.i1 h.i2);clear ha f h i ht;have bk:=Blk.new w 30 #[.slice DA s.dom.length ar,.slice NA s.auths.length ax,.slice ZA s.zones.length az,.slice CA s.cases.length aq,.int .i64 s.signed,.int .i64 s.now];have ba:=zG w (.cells #[.slice DA s.dom.length ar,.slice NA s.auths.length ax,.slice ZA s.zones.length az,.slice CA s.cases.length aq,.int .i64 s.signed,.int .i64 s.now] 30);go_enter func4,ntmps4
 go_upto_region 1 with fail
 generalize w.alloc _=w0 at*;have y:=hid bk;have A:=hid ba;clear bk ba;go_wp2_with fail
 refine(zQq w0 (a8 _ A)).mono ?_;rintro e w1 ⟨rfl,f⟩;replace y:=hid (y.below f y.lt);replace A:=hid (zC A f);clear f;obtain⟨q0,F,q1,G,q2,H,q3,I,q4,J,q5,K,ql⟩:=y.out.d6;go_wp2_with fail
 refine(zSC (λb=>b<w1.heap.size) _ _ _ _ _ _ a b s w1 (a2 _ A) (a3 _ A) (a4 _ A) (λb f=>f)).mono ?_;rintro e w2 ⟨t,rfl,f,a0⟩;replace y:=hid (y.below f y.lt);replace A:=hid (zC A f);have HF:=hid a0;clear f a0 q0 q1 q2 q3 q4 q5 F G H I J K ql
 cases t with
 |false=>
  go_wp2_with fail
  go_ret;exact⟨rfl,A⟩
 |true=>
  have HP:=hid (HF (by trivial));clear HF;obtain⟨q0,F,q1,G,q2,H,q3,I,q4,J,q5,K,ql⟩:=y.out.d6;go_wp2_with fail
  refine(zFO (λb=>b<w2.heap.size) _ _ _ _ _ _ a b s w2 (a2 _ A) (a3 _ A) (a4 _ A) (λb f=>f) (λm hm=>by have:=HP.fa m hm;omega) (λm hm=>by have:=HP.fb m hm;omega) (a8 _ A)).mono ?_;rintro e u3 ⟨c3,p3,q3,r3,t3,rfl,a5,av,aw,f⟩;have o:=hid (show CoR (λb=>b<u3.heap.size) u3 c3 p3 q3 r3 t3 (zAO a b s).1 from⟨a5.live.mono λb f=>f.2,av.at_.1.live.mono λb f=>f.2,av.at_.2.live.mono λb f=>f.2,aw.at_.1.live.mono λb f=>f.2,aw.at_.2.live.mono λb f=>f.2⟩);obtain⟨b4,b5,rfl,-⟩:=a5.form;obtain⟨ci,cj,rfl,-⟩:=av.at_.1.form;obtain⟨ck,cl,rfl,-⟩:=av.at_.2.form;obtain⟨cm,cn,rfl,-⟩:=aw.at_.1.form;obtain⟨co,cp,rfl,-⟩:=aw.at_.2.form;replace y:=hid (y.below f y.lt);replace A:=hid (zC A f);have a9:=A;clear a5 av aw f q0 q1 q2 q3 q4 q5 F G H I J K ql;obtain⟨X,hX⟩:∃c,zAO a b s=c:=⟨_,rfl⟩;rw[hX]at o;rw[hX];have a1:=hid hX;clear hX;simp only[zKX];go_upto_region 5 with(refine zN rfl 38 _ _ rfl rfl rfl (Blk.new _ _ _) rfl (by kernel_rfl) (by simp[Value.oneCell']) ?_;intro w3 af bf bo)
  have g:Below u3.heap.size u3 w3:=(zG u3 _).trans (z8 (bf.mono λb _(f:b<u3.heap.size)=>by omega) (by simp));replace y:=hid (y.below g y.lt);replace A:=hid (zC A g);replace o:=hid ((o.keep (.of_below g)).mono (Z':=λb=>b<w3.heap.size/\b≠u3.heap.size) λb i=>⟨Nat.lt_of_lt_of_le i g.size,Nat.ne_of_lt i⟩);have j:=hid af;have cd:=af.lt;have bh:=hid (show w.heap.size<=u3.heap.size from by have:=a9.size;exact this);clear af bf bo g a9;generalize u3.heap.size=B3 at*;replace o:=hid (o.mono (Z':=λb=>b<w3.heap.size) λb f=>f.1);clear bh;obtain⟨E,i3,e3⟩:=X;dsimp only at*
  cases i3 with
  |false=>
   obtain rfl:=zWy a1.out;have af:=j.out;go_wp2_with(refine zEi (by rfl) 38 (.tmp 8) rfl rfl af _ underlying38 rfl (by kernel_rfl) ?_);refine(zVo _ _ _ _ _ _ _ _ _ _ _ _ zCa zCa w3 o (CoR.zero (λ_=>False) _) (λb f=>f) (λb f=>f.elim)).mono ?_;rintro e w4 ⟨rfl,bb⟩;rw[show zUt zCa zCa=true from by simp[zUt,zU8]];have bn:=hid (zC A bb);clear bb af j o y;(go_wp2_with fail);go_ret;exact⟨rfl,bn⟩
  |true=>
   obtain⟨rfl,a6,bc,bd,bg⟩:=zWk a1.out;have bi:=hid bc;have bj:=hid bd;have bm:=hid a6;(have cb:(E.a.kind !=E.b.kind)=true:=by simpa using bg);have ht:=(zD6.1 a6).t
   have a7:=hid (show I64 E.signed/\I64 E.now from by
    have h1:0<=E.signed:=ht.1;have h2:E.signed<=E.now:=ht.2.1;have h3:E.now<=144001439:=ht.2.2
    unfold I64;omega)
   clear bc bd a6 bg ht a1;obtain⟨q0,F,q1,G,q2,H,q3,I,q4,J,q5,K,ql⟩:=y.out.d6;obtain⟨o0,R,o1,T,o2,U,o3,V,o4,Y,o5,aa,o6,ab,o7,ac,o8,ad,ol⟩:=j.out.d9;(go_wp2_with fail);refine(zVp (λb=>b<w3.heap.size) _ _ _ _ _ s E.signed E.now E.cas w3 (a4 _ A) o.c (λb f=>f) (by have:=HP.n;omega) a7.1 a7.2).mono ?_;rintro e u11 ⟨vs,rfl,hs,f⟩;have v:=hid (hs.mono (Z':=λb=>b<u11.heap.size) λb i=>i.elim (λh=>Nat.lt_of_lt_of_le h f.size) λh=>h.2);obtain⟨KA,b0,rfl,cc⟩:=zj.form hs.c;clear hs q0 q1 q2 q3 q4 q5 F G H I J K ql o0 R o1 T o2 U o3 V o4 Y o5 aa o6 ab o7 ac o8 ad ol;replace y:=hid (y.below f y.lt);replace A:=hid (zC A f);replace j:=hid (j.below f j.lt);replace o:=hid ((o.keep (.of_below f)).mono (Z':=λb=>b<u11.heap.size) λb i=>Nat.lt_of_lt_of_le i f.size);clear f;(go_upto_region 8 with(refine zN rfl 30 _ _ rfl rfl rfl (Blk.new _ _ _) rfl (by kernel_rfl) (by simp[Value.oneCell']) ?_;intro ay N O au));have g:Below u11.heap.size u11 ay:=(zG u11 _).trans (z8 (O.mono λb _(f:b<u11.heap.size)=>by omega) (by simp));have u:=hid N;clear N O au;replace y:=hid (y.below g y.lt);replace A:=hid (zC A g);replace j:=hid (j.below g j.lt);replace o:=hid ((o.keep (.of_below g)).mono (Z':=λb=>b<ay.heap.size) λb i=>Nat.lt_of_lt_of_le i g.size);replace v:=hid ((v.keep (.of_below g)).mono (Z':=λb=>b<ay.heap.size) λb i=>Nat.lt_of_lt_of_le i g.size);clear g;generalize u11.heap.size=b1 at*;obtain⟨q0,F,q1,G,q2,H,q3,I,q4,J,q5,K,ql⟩:=u.out.d6;(go_wp2_with fail);refine(zIL (λb=>b<ay.heap.size) _ _ _ _ _ a (zAv s E.signed E.now E.cas) ay (a2 _ A) v (λb f=>f) (λm hm=>by have:=HP.fa m hm;omega)).mono ?_;rintro e u12 ⟨vv,rfl,hv,f⟩;rw[bi.out]at hv⊢;obtain⟨b6,b8,rfl,P,Q⟩:=hv;have x:=hid (And.intro (P.live.mono (Z':=λb=>b<u12.heap.size) λb f=>f.2) (Q.live.mono (Z':=λb=>b<u12.heap.size) λb f=>f.2));obtain⟨br,bt,rfl,-⟩:=P.form;obtain⟨bv,bx,rfl,-⟩:=Q.form;clear P Q q0 q1 q2 q3 q4 q5 F G H I J K ql;replace y:=hid (y.below f y.lt);replace A:=hid (zC A f);replace j:=hid (j.below f j.lt);replace u:=hid (u.below f u.lt);replace o:=hid ((o.keep (.of_below f)).mono (Z':=λb=>b<u12.heap.size) λb i=>Nat.lt_of_lt_of_le i f.size);replace v:=hid ((v.keep (.of_below f)).mono (Z':=λb=>b<u12.heap.size) λb i=>Nat.lt_of_lt_of_le i f.size);clear f;(go_upto_region 9 with(refine zN rfl 36 _ _ rfl rfl rfl (Blk.new _ _ _) rfl (by kernel_rfl) (by simp[Value.oneCell']) ?_;intro ae N O au));have g:Below u12.heap.size u12 ae:=(zG u12 _).trans (z8 (O.mono λb _(f:b<u12.heap.size)=>by omega) (by simp));have k:=hid N;clear N O au;replace y:=hid (y.below g y.lt);replace A:=hid (zC A g);replace j:=hid (j.below g j.lt);replace u:=hid (u.below g u.lt);replace o:=hid ((o.keep (.of_below g)).mono (Z':=λb=>b<ae.heap.size) λb i=>Nat.lt_of_lt_of_le i g.size);replace v:=hid ((v.keep (.of_below g)).mono (Z':=λb=>b<ae.heap.size) λb i=>Nat.lt_of_lt_of_le i g.size);replace x:=hid (And.intro ((x.1.keep (.of_below g)).mono (Z':=λb=>b<ae.heap.size) λb i=>Nat.lt_of_lt_of_le i g.size) ((x.2.keep (.of_below g)).mono (Z':=λb=>b<ae.heap.size) λb i=>Nat.lt_of_lt_of_le i g.size));clear g;generalize u12.heap.size=b2 at*;obtain⟨q0,F,q1,G,q2,H,q3,I,q4,J,q5,K,ql⟩:=u.out.d6;(go_wp2_with fail);refine(zIL (λb=>b<ae.heap.size) _ _ _ _ _ b (zAv s E.signed E.now E.cas) ae (a3 _ A) v (λb f=>f) (λm hm=>by have:=HP.fb m hm;omega)).mono ?_;rintro e u14 ⟨vv,rfl,hv,f⟩;rw[bj.out]at hv⊢;obtain⟨b7,b9,rfl,P,Q⟩:=hv;have D:=hid (And.intro (P.live.mono (Z':=λb=>b<u14.heap.size) λb f=>f.2) (Q.live.mono (Z':=λb=>b<u14.heap.size) λb f=>f.2));obtain⟨bs,bu,rfl,-⟩:=P.form;obtain⟨bw,bz,rfl,-⟩:=Q.form;clear P Q q0 q1 q2 q3 q4 q5 F G H I J K ql;replace y:=hid (y.below f y.lt);replace A:=hid (zC A f);replace j:=hid (j.below f j.lt);replace u:=hid (u.below f u.lt);replace k:=hid (k.below f k.lt);replace o:=hid ((o.keep (.of_below f)).mono (Z':=λb=>b<u14.heap.size) λb i=>Nat.lt_of_lt_of_le i f.size);replace v:=hid ((v.keep (.of_below f)).mono (Z':=λb=>b<u14.heap.size) λb i=>Nat.lt_of_lt_of_le i f.size);replace x:=hid (And.intro ((x.1.keep (.of_below f)).mono (Z':=λb=>b<u14.heap.size) λb i=>Nat.lt_of_lt_of_le i f.size) ((x.2.keep (.of_below f)).mono (Z':=λb=>b<u14.heap.size) λb i=>Nat.lt_of_lt_of_le i f.size));clear f;(go_upto_region 10 with(refine zN rfl 36 _ _ rfl rfl rfl (Blk.new _ _ _) rfl (by kernel_rfl) (by simp[Value.oneCell']) ?_;intro L N O au));have g:Below u14.heap.size u14 L:=(zG u14 _).trans (z8 (O.mono λb _(f:b<u14.heap.size)=>by omega) (by simp));have B:=hid N;clear N O au;replace y:=hid (y.below g y.lt);replace A:=hid (zC A g);replace j:=hid (j.below g j.lt);replace u:=hid (u.below g u.lt);replace k:=hid (k.below g k.lt);replace o:=hid ((o.keep (.of_below g)).mono (Z':=λb=>b<L.heap.size) λb i=>Nat.lt_of_lt_of_le i g.size);replace v:=hid ((v.keep (.of_below g)).mono (Z':=λb=>b<L.heap.size) λb i=>Nat.lt_of_lt_of_le i g.size);replace x:=hid (And.intro ((x.1.keep (.of_below g)).mono (Z':=λb=>b<L.heap.size) λb i=>Nat.lt_of_lt_of_le i g.size) ((x.2.keep (.of_below g)).mono (Z':=λb=>b<L.heap.size) λb i=>Nat.lt_of_lt_of_le i g.size));replace D:=hid (And.intro ((D.1.keep (.of_below g)).mono (Z':=λb=>b<L.heap.size) λb i=>Nat.lt_of_lt_of_le i g.size) ((D.2.keep (.of_below g)).mono (Z':=λb=>b<L.heap.size) λb i=>Nat.lt_of_lt_of_le i g.size));clear g;generalize u14.heap.size=b3 at*;obtain⟨q0,F,q1,G,q2,H,q3,I,q4,J,q5,K,ql⟩:=u.out.d6;obtain⟨o0,R,o1,T,o2,U,o3,V,o4,Y,o5,aa,o6,ab,o7,ac,o8,ad,ol⟩:=j.out.d9;obtain⟨m0,ag,m1,ah,m2,ai,ml⟩:=k.out.d3;obtain⟨n0,aj,n1,ak,n2,al,nl⟩:=B.out.d3;(go_wp2_with fail);refine(zJr (λb=>b<L.heap.size) _ _ _ _ (zAv s E.signed E.now E.cas) L v (λb f=>f)).mono ?_
   rintro e M ⟨rfl,f⟩;rw[bm.out];clear q0 q1 q2 q3 q4 q5 F G H I J K ql o0 R o1 T o2 U o3 V o4 Y o5 aa o6 ab o7 ac o8 ad ol m0 ag m1 ah m2 ai ml n0 aj n1 ak n2 al nl;replace y:=hid (y.below f y.lt);replace A:=hid (zC A f);replace j:=hid (j.below f j.lt);replace u:=hid (u.below f u.lt);replace k:=hid (k.below f k.lt);replace B:=hid (B.below f B.lt);replace o:=hid ((o.keep (.of_below f)).mono (Z':=λb=>b<M.heap.size) λb i=>Nat.lt_of_lt_of_le i f.size);replace v:=hid ((v.keep (.of_below f)).mono (Z':=λb=>b<M.heap.size) λb i=>Nat.lt_of_lt_of_le i f.size);replace x:=hid (And.intro ((x.1.keep (.of_below f)).mono (Z':=λb=>b<M.heap.size) λb i=>Nat.lt_of_lt_of_le i f.size) ((x.2.keep (.of_below f)).mono (Z':=λb=>b<M.heap.size) λb i=>Nat.lt_of_lt_of_le i f.size));replace D:=hid (And.intro ((D.1.keep (.of_below f)).mono (Z':=λb=>b<M.heap.size) λb i=>Nat.lt_of_lt_of_le i f.size) ((D.2.keep (.of_below f)).mono (Z':=λb=>b<M.heap.size) λb i=>Nat.lt_of_lt_of_le i f.size));clear f;obtain⟨o0,R,o1,T,o2,U,o3,V,o4,Y,o5,aa,o6,ab,o7,ac,o8,ad,ol⟩:=j.out.d9;obtain⟨m0,ag,m1,ah,m2,ai,ml⟩:=k.out.d3;obtain⟨n0,aj,n1,ak,n2,al,nl⟩:=B.out.d3;(go_wp2_with fail);refine(zUh (λb=>b<M.heap.size) (λb=>b<M.heap.size) _ _ _ _ E.a E.a M x.1 x.2 o.p o.q (λb f=>f) (λb f=>f)).mono ?_;rintro e ao ⟨rfl,f⟩;rw[zUf];clear o0 R o1 T o2 U o3 V o4 Y o5 aa o6 ab o7 ac o8 ad ol m0 ag m1 ah m2 ai ml n0 aj n1 ak n2 al nl;replace y:=hid (y.below f y.lt);replace A:=hid (zC A f);replace j:=hid (j.below f j.lt);replace k:=hid (k.below f k.lt);replace B:=hid (B.below f B.lt);replace o:=hid ((o.keep (.of_below f)).mono (Z':=λb=>b<ao.heap.size) λb i=>Nat.lt_of_lt_of_le i f.size);replace D:=hid (And.intro ((D.1.keep (.of_below f)).mono (Z':=λb=>b<ao.heap.size) λb i=>Nat.lt_of_lt_of_le i f.size) ((D.2.keep (.of_below f)).mono (Z':=λb=>b<ao.heap.size) λb i=>Nat.lt_of_lt_of_le i f.size));clear f;obtain⟨o0,R,o1,T,o2,U,o3,V,o4,Y,o5,aa,o6,ab,o7,ac,o8,ad,ol⟩:=j.out.d9;obtain⟨m0,ag,m1,ah,m2,ai,ml⟩:=k.out.d3;obtain⟨n0,aj,n1,ak,n2,al,nl⟩:=B.out.d3;(go_wp2_with fail);refine(zUh (λb=>b<ao.heap.size) (λb=>b<ao.heap.size) _ _ _ _ E.b E.b ao D.1 D.2 o.r o.t (λb f=>f) (λb f=>f)).mono ?_;rintro e cq ⟨rfl,f⟩;rw[zUf];clear o0 R o1 T o2 U o3 V o4 Y o5 aa o6 ab o7 ac o8 ad ol m0 ag m1 ah m2 ai ml n0 aj n1 ak n2 al nl;replace y:=hid (y.below f y.lt);replace A:=hid (zC A f);replace k:=hid (k.below f k.lt);replace B:=hid (B.below f B.lt);clear f;obtain⟨m0,ag,m1,ah,m2,ai,ml⟩:=k.out.d3;obtain⟨n0,aj,n1,ak,n2,al,nl⟩:=B.out.d3;(go_wp2_with fail);go_ret;exact⟨rfl,A⟩
end
section
open Go.ChangeShapes Go.WideShapes Go.ChangeAt
theorem zVP(os:Os)(c:os.Started)(H:Type)(enc:TypeId × Value->H):
  ReturnsInHanded {} Tryz.checked os 4 .any (λw args=>(Rows.equalShowsSpec.pre enc prog Tryz.f4 [] false w args/\laidMetH prog zJW w)/\sizedMet enc prog Tryz.f4 (OpenSpec.ofChange Rows.equalShowsSpec) false w args)
   (Rows.equalShowsSpec.post enc prog Tryz.f4 false true false false):=by
 refine returnsInHanded_of_change_and (C:=Tryz.checked) (X:=λw _=>laidMetH prog zJW w) (λ_ _ _ L h=>h.of_heap L) own c (by kernel_rfl) func4
  (ChangeSpec.witness_shaped (enc:=enc) (C:=Tryz.checked) (os:=os) (X:=λw _=>laidMetH prog zJW w) false (World.doorLaid prog 62 os) #[.slice none 0 0,.slice none 0 0,.agg #[.slice none 0 0,.slice none 0 0,.slice none 0 0,.slice none 0 0,.int .i64 0,.int .i64 0]] 8 rfl (World.shaped_of_RefB (by kernel_rfl) (by kernel_rfl)) (by kernel_rfl) (by kernel_rfl) (by kernel_rfl) (zSa os _)) ?_
 intro W i args ds E n b u _ f J _;have a:∀(j:Nat) t v,Tryz.f4.params[j]? =some t->args[j]? =some v->Value.okWide prog W .any i t v:=b;have m:=u;obtain⟨p,q,k,K,rfl,-,-⟩:=u;have o:DataW.TrodAll enc prog W 0 (λ_=>true) true Tryz.f4.params.toList args.toList ds p:=k;have d:(DataW.weightsEach prog (Tryz.f4.params.toList++Rows.equalShowsSpec.plain.varTypes prog) (ds++E)).all (· <=reachBytes)=true:=f;clear k f b;obtain⟨rfl,rfl⟩:=trodVars_none K;simp only[List.append_nil]at m;have s:=o;rw[params4]at o a d;obtain⟨T,Y,d0,A,p0,q0,g,rfl,rfl,F,O⟩:=trodAll_cons o;obtain⟨U,Z,d1,B,p1,q1,rfl,rfl,rfl,G,P⟩:=trodAll_cons O;obtain⟨V,aa,d2,D,p2,q2,rfl,rfl,rfl,I,Q⟩:=trodAll_cons P;obtain⟨rfl,rfl,rfl⟩:=trodAll_nil Q;obtain rfl:args=#[T,U,V]:=by simpa using congrArg List.toArray g
 obtain⟨M,x⟩:=zSx (a 0 22 _ rfl rfl) F (zRZ d (j:=0) rfl rfl);obtain⟨N,y⟩:=zSx (a 1 22 _ rfl rfl) G (zRZ d (j:=1) rfl rfl);obtain⟨vd,va,vz,vc,R,rfl,z⟩:=zRm (a 2 30 _ rfl rfl) I (zRZ d (j:=2) rfl rfl);refine(zWP (zCf W) _ _ _ _ _ _ M N R W x y z (λ_ h=>h) (zOb J)).mono λe W' ⟨he,hb⟩=> ?_
 subst he;exact⟨_,rfl,zSb m s rfl rfl (by kernel_rfl) (by kernel_rfl) hb⟩
theorem zV6:(Rows.equalShowsRow.inPlace==prog.inPlace 4)=true:=by kernel_rfl
theorem zVQ:(Rows.equalShowsRow.unfollowed==prog.unfollowed 4)=true:=by kernel_rfl
theorem zVR:(Rows.equalShowsRow.recurses==prog.recurses 4)=true:=by kernel_rfl
theorem zV7:(Rows.equalShowsRow.named==prog.varsNamed 4)=true:=by kernel_rfl
theorem zV8:joinedFacts prog 4 Tryz.f4 Rows.equalShowsSpec Rows.equalShowsRow=true:=
 zN6 (by kernel_rfl) laidOut zTi (by kernel_rfl) (by kernel_rfl) rfl zTj rfl zTk zV6 zVQ zVR zV7 (by kernel_rfl) (by kernel_rfl) (by kernel_rfl) (by kernel_rfl) (by kernel_rfl) rfl (by kernel_rfl) (by kernel_rfl) (by kernel_rfl)
  zUH rfl zTl zTm zTn zUI rfl (by kernel_rfl) (by kernel_rfl) (by kernel_rfl)
theorem zV9:Rows.EqualShowsSaid:=
 OpenClaim.holds_of_wide 4 Tryz.f4 rfl rfl rfl rfl rfl rfl rfl ⟨rfl,rfl,rfl,rfl,rfl⟩ rfl rfl rfl rfl rfl (by kernel_rfl) func4 zV8
  (of_decide_eq_true (by kernel_rfl)) (by unfold Func.isWrapper;rw[if_neg (of_decide_eq_false (by kernel_rfl))];exact⟨rfl,rfl⟩)
  (λc a H b _=>zVP c a H b)
theorem zWL:Rows.equalShowsRow.wfByText (OpenSpec.ofChange Rows.equalShowsSpec)=true:=by kernel_rfl
theorem zWM:prog.funcNamed "customhouse/customhouselaw33.EqualShows" =some 4:=by kernel_rfl
theorem zVa:([22,22,30].all λu=> !prog.wantsStandIn u)=true:=by kernel_rfl
theorem zVg:false=Rows.equalShowsRow.goesBy Tryz.pinned.checked.prog:=by kernel_rfl
theorem equalshows_card:Rows.EqualShowsCardSaid:=
 Claim7.holds_tied_plain_at .later [] [.data,.data,.data,.sentinel,.sentinel] true (true,"b7c691893ac5ffd63a8a77a1c3b8b90599a3d2dc70d51f5bf9900650e53e98a9") true
  zV9 (λ_ h=>by cases h) zWL (λ_ h=>by cases h) equalShows_row_tie rfl ⟨rfl,rfl⟩ zUJ rfl
  (λf fn hf hfn=>by
   obtain rfl:f=4:=Option.some.inj (zWM.symm.trans hf) |>.symm;obtain rfl:fn=Tryz.f4:=(Option.some.inj (func4.symm.trans hfn)).symm
   exact⟨zTo,λj t ht=>by
    rw[params4]at ht;have hm:t∈[22,22,30]:=by simpa using Array.mem_of_getElem? ht
    exact(show prog.wantsStandIn t=false by simpa using List.all_eq_true.1 zVa t hm)⟩)
  zVg
end
end Go.Proofs.YtommaegelgilnaaGreatDoor
