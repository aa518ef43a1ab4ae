/- Texts QR TM W72 W62 TB TF3 TR. -/
import Derived.Test.YthpocbeoanipbaaGreatDoorM21
import Derived.Test.YthpocbeoanipbaaGreatDoorM19
import Derived.Test.YthpocbeoanipbaaGreatDoorM23
import Derived.Test.YthpocbeoanipbaaGreatDoorM22
import Derived.Test.YthpocbeoanipbaaGreatDoorM15
set_option linter.all false
namespace Go.Proofs.YthpocbeoanipbaaGreatDoor
open Go.RowKit Go.Proofs.Tryz
set_option maxHeartbeats 8000000
set_option maxRecDepth 100000
variable{a b t:zY}{c:List Int}{ds:List zC}{i:Nat}{l x y:zI}{ls:List zI}
theorem zOO(Z Zc:zE)(B C:Nat)(vd L u:Value)(ds:List zC)(c:List Int)(x:zI)(cs:List Value)(w:World)(F:zA4 Z w cs x)(E:Facts Z w vd ds)(D:zK Zc w u c)(k:zG x.when_<=4000000000000000000)(G:∀b,Z b->b<w.heap.size)(m:∀b,Zc b->b<w.heap.size)
  (q:Blk w B 27 #[vd,L])(s:Blk w C 29 #[u]):
  Calls prog 28 #[.agg cs.toArray,.pointer (some ⟨B,0,none⟩),.pointer (some ⟨C,0,none⟩)] w λe w'=>e= .returned (.bool (zCZ ds c x.when_))/\Bw w w':=by
 obtain⟨A,o,rfl,j⟩:=F.form;have v:=hid (λW(n:Bw w W)=>zNP (λb=>Z b\/Zc b) vd u ds c x.when_ _ W ((FmR.keep (zA.of_below n) _ _ j).mono (λ_ h=> .inl h)) ((E.keep (zA.of_below n)).mono (λ_ h=> .inl h)) ((D.keep (zA.of_below n)).mono (λ_ h=> .inr h)) k (λb z=>Nat.lt_of_lt_of_le (z.elim (G b) (m b)) n.size));generalize zCZ ds c x.when_=z at*;obtain⟨O,a⟩:∃y,y=x.when_.op:=⟨_,rfl⟩;obtain⟨P,d⟩:∃y,y=x.when_.name:=⟨_,rfl⟩;obtain⟨Q,f⟩:∃y,y=x.when_.cmp:=⟨_,rfl⟩;obtain⟨R,g⟩:∃y,y=x.when_.num:=⟨_,rfl⟩;obtain⟨T,i⟩:∃y,y=Value.slice A x.when_.kids.length o:=⟨_,rfl⟩;rw[<-a,<-d,<-f,<-g,<-i]at v⊢;generalize x.cls=M at*;generalize x.ctl=N at*;have H:=q.at0;have I:=q.lt;have J:=s.at0;have K:=s.lt;clear a d f g i j E D k G m q s F;go_enter func28,ntmps28
 go_wp2_with fail
 refine(v.out _ (zF _ _)).mono ?_;rintro e U ⟨rfl,t⟩;go_wp2;go_ret;exact⟨rfl,zD (zF _ _) t⟩
theorem Tryz.egTC1:∀args w,(callFunc 28 args).run prog w= .ok (.enter 28 args) w:=enters_of func28 (by kernel_rfl) rfl
theorem zDZ(Z Zc:zE)(vd vl vc:Value)(t:zY)(c:List Int)(w:World)(h:zAA Z w vd vl t)(T:zK Zc w vc c)(Y:∀b,Z b->b<w.heap.size)(P:∀b,Zc b->b<w.heap.size)(X:t.fine):
  Calls prog 11 #[.agg #[vd,vl],vc] w λe w'=>e= .returned (.tuple #[.int .i64 (zAR t c).1,.int .i64 (zAR t c).2])/\Bw w w':=by
 have HV:=hid (λW(q:Bw w W)=>zBX Z vd vl t W (h.keep (zA.of_below q)) (λb N=>Nat.lt_of_lt_of_le (Y b N) q.size) X);have K:=hid (λW(q:Bw w W)=>zCX (λb=>Z b\/Zc b) vd vc t.dom c W ((h.d.keep (zA.of_below q)).mono (λ_ h=> .inl h)) ((T.keep (zA.of_below q)).mono (λ_ h=> .inr h)));obtain⟨⟨A,g,rfl,aa,U,z,hs⟩⟩:=h.l;obtain⟨⟨H,a,rfl,_⟩,_⟩:=id T
 have Q:=hid (λW(q:Bw w W) B C(hB:Blk W B 27 #[vd,.slice A t.lines.length g])(hC:Blk W C 29 #[.slice H c.length a])=>zG6 28 #[.pointer (some ⟨B,0,none⟩),.pointer (some ⟨C,0,none⟩)] Tryz.egTC1 (zA4 Z W) Z t.lines (qAt t.lines λx=>zCZ t.dom c x.when_) A g W zA4.seven
  (hs.imp (λ_ _ h=>h.keep (zA.of_below q)) (zA.of_below q) (λ_ h=>h)) (by omega) (λi hi cs V W' s=>by
   rw[zIJ hi];have u:=zD q s
   exact zOO Z Zc B C vd _ _ t.dom c t.lines[i] cs W' (V.keep (zA.of_below s)) (h.d.keep (zA.of_below u)) (T.keep (zA.of_below u)) (X _ (List.getElem_mem hi)) (λb N=>Nat.lt_of_lt_of_le (Y b N) u.size) (λb N=>Nat.lt_of_lt_of_le (P b N) u.size) (hB.below s hB.lt) (hC.below s hC.lt)))
 simp only[zJM]at Q;have eL:t.lines.findIdx (λx=>zCZ t.dom c x.when_)=zAw t c:=rfl;rw[eL]at Q;obtain⟨RR,o⟩:∃RR,RR=zAR t c:=⟨_,rfl⟩;rw[<-o];unfold zAR at o;have R:=hid o;clear o eL;generalize zAw t c=k at*;generalize z7 t=b1 at*;generalize fits t.dom c=b2 at*;have ab:=hid (show t.lines.length<=140737488355328 by omega);generalize t.lines.length=n at*;have f:=(Blk.new w 27 #[vd,.slice A n g]).alloc (.cells #[.slice H c.length a] 29);have j:=Blk.new (w.alloc (.cells #[vd,.slice A n g] 27)) 29 #[.slice H c.length a];rw[World.size_alloc]at j;have E:Bw w ((w.alloc (.cells #[vd,.slice A n g] 27)).alloc (.cells #[.slice H c.length a] 29)):=(zF w _).alloc (by simp) _;generalize c.length=cn at*;clear h T Y P X hs z;go_enter func11,ntmps11
 go_wp2_with fail
 generalize (w.alloc (.cells #[vd,.slice A n g] 27)).alloc (.cells #[.slice H cn a] 29)=w0 at*;refine(HV.out _ E).mono ?_;rintro e w1 ⟨rfl,v⟩;have m:=zD E v;replace f:=f.below v f.lt;replace j:=j.below v j.lt;clear v E HV;cases b1
 ·have D:=hid (R.out.trans (if_pos rfl));go_wp2_with fail
  go_ret2;exact⟨by rw[D.out];rfl,m⟩
 ·have t0:=f.at0;have t1:=f.at1;have tl:=f.lt;have d0:=j.at0;have dl:=j.lt;have I:=hid (And.intro f j);clear f j;go_wp2_with fail
  refine(K.out _ m).mono ?_;rintro e w2 ⟨rfl,y⟩;have F:=zD m y;have f:=I.out.1.below y I.out.1.lt;have j:=I.out.2.below y I.out.2.lt;clear m y I K t0 t1 tl d0 dl;cases b2
  ·have D:=hid (R.out.trans (if_pos rfl));(go_wp2_with fail);go_ret2;exact⟨by rw[D.out];rfl,F⟩
  ·have L:=hid (R.out.trans (if_neg (by decide)));have J:=hid (Q.out _ F _ _ f j);have t1:=f.at1;have tl:=f.lt;clear f j Q R;(go_wp2_with fail);refine J.out.mono ?_;rintro e w3 ⟨rfl,O⟩;have M:=zD F O;clear O J t1 tl;by_cases G:k<n
   ·have D:=hid (L.out.trans (if_pos G));rw[if_pos G];have e1:decide (((k:Nat):Int)<0)=false:=decide_eq_false (by omega);clear G;(go_wp2_with fail);go_ret2;exact⟨by rw[D.out];rfl,M⟩
   ·have D:=hid (L.out.trans (if_neg G));rw[if_neg G];clear G;(go_wp2_with fail);go_ret2;exact⟨by rw[D.out];rfl,M⟩
section
open Go.Shelf
def zRi(w:World)(e:Ending)(w':World):Prop:=∃b:Bool,e= .returned (.bool b)/\Bw w w'
theorem zTH(Z:zE)(v:Value)(ds:List zC)(n:Int)(T:I64 n)(w:World)(h:Facts Z w v ds)(C:∀b,Z b->b<w.heap.size):
  Calls prog 58 #[.agg #[v],.int .i64 n] w (zRi w):=by
 obtain⟨⟨A,e,rfl,z,_,f,B⟩,g⟩:=h;have u:=hid (And.intro B C);have D:=hid g;have x:=Blk.new w 24 #[.slice A ds.length e];have i:=zF w (.cells #[.slice A ds.length e] 24);have J:ds.length<=140737488355328:=by omega
 clear B C g f;go_enter func58,ntmps58
 go_upto_region 1 with fail
 generalize w.alloc (.cells #[.slice A ds.length e] 24)=U at*;have o:=hid (And.intro x i);clear x i;go_wp2;go_loopw[5] (λiv wr=>∃k:Nat,k<=ds.length/\iv= .int .i64 k/\Blk wr w.heap.size 24 #[.slice A ds.length e]/\Bw w wr) (λiv _=>ds.length-(intOf iv).toNat);case atStart=>exact⟨0,Nat.zero_le _,rfl,o.out.1,o.out.2⟩
 case round=>
  obtain⟨k,R,rfl,d,c⟩:=hrel;clear o;have M:=d.at0;have N:=d.lt;by_cases m:k<ds.length
  ·obtain⟨b,t,P,rfl,s,y,F⟩:=u.out.1.at_ m;have q:=u.out.2 b s;subst F;have j:=zBV c q y;have E:wr.cell? ⟨b,t+k*4,none⟩=some (.string ds[k].name):=j 0 _ rfl;have O:=lt_of_cell E;have K:=(D.out ds[k] (List.getElem_mem m)).1;(have H:((k:Nat):Int)<(ds.length:Int):=by omega);(have G:(0:Int)<=((k:Nat):Int):=by omega);clear y j;generalize ds[k].name =L at*;have a:=hid (And.intro d c);clear d c;by_cases I:((k:Nat):Int)<n
   ·by_cases Q:L.size<=100
    ·(go_wp2_with fail);go_roundw;(case rel=>exact⟨k+1,by omega,by go_num,a.out.1,a.out.2⟩);case measure=>simp[intOf];omega
    ·(go_wp2_with fail);go_ret;exact⟨_,rfl,a.out.2⟩
   ·(go_wp2_with fail);go_ret;exact⟨_,rfl,a.out.2⟩
  ·(obtain rfl:k=ds.length:=by omega);have a:=hid c;clear d c;(go_wp2_with fail);go_ret;exact⟨_,rfl,a.out⟩
end
theorem zMz(Z Z':zE)(n:zB)(cs:List Value)(vd:Value)(ds:List zC)(w:World)(m:zAP Z w cs n)(i:Facts Z' w vd ds):
  Calls prog 110 #[.agg cs.toArray,.agg #[vd]] w λe w'=>e= .returned (.int .i64 (zP ds n))/\Bw w w':=by
 obtain⟨o,q,rfl,-,c,d⟩:=m;obtain⟨D,b,rfl,-,-,-⟩:=i.open_;obtain⟨K,f,rfl,-⟩:=d.form;obtain⟨j,g,rfl,-⟩:=c.form;have h:=hid (zDG w (.cells #[.bool n.leaf,.int .i64 n.fact,.slice j n.cuts.length g,.slice K n.kids.length f] 131) (.cells #[.slice D ds.length b] 24));clear c d i;by_cases a:n.kids=[]
 ·have e:zP ds n=ds.length:=by unfold zP;rw[if_pos a]
  have k:((n.kids.length:Int)==0)=true:=by simp[a]
  rw[e];clear e a;go_enter func110,ntmps110
  go_wp2;go_ret;exact⟨rfl,h.out⟩
 ·have e:zP ds n=n.fact:=by unfold zP;rw[if_neg a]
  have k:((n.kids.length:Int)==0)=false:=by simp[a]
  rw[e];clear e a;go_enter func110,ntmps110
  go_wp2;go_ret;exact⟨rfl,h.out⟩
theorem zPK(Z:zE)(vg:Value)(g:List zB)(ds:List zC)(x i v:Int)(w:World)(hg:z8 Z w vg g)(j:Good ds g)(u:Rng g x):
  Calls prog 113 #[.agg #[vg],.int .i64 x,.int .i64 i,.int .i64 v] w λe w'=>e= .returned (.int .i64 (zAG g x i v))/\Bw w w':=by
 obtain⟨A,F,rfl,Y,ag,T⟩:=hg.open_;obtain⟨k,rfl⟩:=Int.eq_ofNat_of_zero_le u.1;have hi:k<g.length:=by have:=u.2;omega
 obtain⟨b,I,al,ao,rfl,hz,hb,c0,c1,c2,c3,hf,G,B⟩:=T k hi;have D:nAt g (k:Int)=g[k]:=zBs hi;have J:=hid (λ(h:(nAt g k).kids ≠[])=>(j.inner u h).nxL v);have N:=hid (λ(h:(nAt g k).kids ≠[])=>(j.inner u h).len);have E:=hid (show zAG g k i v=if(nAt g k).kids ≠[]/\(nAt g k).fact =i then(nAt g k).kids.getD (nx (nAt g k).cuts v) 0 else(k:Int) from rfl);rw[D]at J N E;obtain⟨Q,f,rfl,-⟩:=G.form;obtain⟨K,d,rfl,ak⟩:=B.form;have ai:(k:Int)<(g.length:Int):=by omega
 have HN:=hid (λW(hW:Bw w W)=>zS1 Z g[k] [.bool g[k].leaf,.int .i64 g[k].fact,.slice Q g[k].cuts.length f,.slice K g[k].kids.length d] v W ((show zAP Z w _ g[k] from⟨_,_,rfl,hf,G,B⟩).keep (.of_below hW)));have HK:=hid B;generalize g[k]=n at*;clear T Y D j u G B hg hf;have X:=(Blk.new' (w.alloc (.cells #[.slice (some ⟨b,I,none⟩) g.length F] 83)) 131 #[.bool n.leaf,.int .i64 n.fact,.slice Q n.cuts.length f,.slice K n.kids.length d] (n:=w.heap.size+1) (by simp));have V:=zDG w (.cells #[.slice (some ⟨b,I,none⟩) g.length F] 83) (.cells #[.bool n.leaf,.int .i64 n.fact,.slice Q n.cuts.length f,.slice K n.kids.length d] 131);have HB:=hid (And.intro X V);clear X V;by_cases t:n.kids=[]
 ·have e:zAG g k i v=k:=by rw[E.out,if_neg (λh=>h.1 t)]
  have e3:decide ((0:Int)<(n.kids.length:Int))=false:=by simp[t]
  have e5:decide (0<n.kids.length)=false:=by simp[t]
  rw[e];clear e t E J N HN HK;go_enter func113,ntmps113
  go_wp2;go_ret;exact⟨rfl,HB.out.2⟩
 ·have ae:0<n.kids.length:=List.length_pos_iff.2 t;have e3:decide ((0:Int)<(n.kids.length:Int))=true:=by simp;omega
  by_cases m:n.fact=i
  ·have P:=hid (E.out.trans (if_pos ⟨t,m⟩));have L:=hid (J.out t);have O:=hid (N.out t);(have e4:(n.fact==i)=true:=by simp[m]);rw[P.out];clear t E J N m;have af:=zF8 n.cuts v;obtain⟨q,hq⟩:∃q:Nat,q=nx n.cuts v:=⟨_,rfl⟩;(have ab:q<n.kids.length:=by have:=O.out;omega);obtain⟨kb,s,rfl,-,aj,H⟩:=HK.out.at_ ab;have HQ:=hid (show n.kids[q]=n.kids.getD (nx n.cuts v) 0 from by rw[<-hq];simp[List.getD_eq_getElem?_getD,ab]);have ac:=hid (show nxL n v=(q:Int) from by rw[L.out,hq]);generalize n.kids[q]=r at*;(have ah:(q:Int)<(n.kids.length:Int):=by omega);have aa:=lt_of_cell H;have M:=hid H;rw[<-HQ.out];clear hq HQ P L O H af ae;(go_enter func113,ntmps113);(go_upto_region 3 with fail);have c:=HB;generalize (w.alloc (.cells #[.slice (some ⟨b,I,none⟩) g.length F] 83)).alloc (.cells #[.bool n.leaf,.int .i64 n.fact,.slice Q n.cuts.length f,.slice (some ⟨kb,s,none⟩) n.kids.length d] 131)=C at*
   have a:=hid (λ(W:World)(hW:Bw C W)=>(show W.cell? ⟨w.heap.size+1,0,none⟩=some (.bool n.leaf)/\W.cell? ⟨w.heap.size+1,1,none⟩=some (.int .i64 n.fact)/\W.cell? ⟨w.heap.size+1,2,none⟩=some (.slice Q n.cuts.length f)/\W.cell? ⟨w.heap.size+1,3,none⟩=some (.slice (some ⟨kb,s,none⟩) n.kids.length d)/\W.cell? ⟨kb,s+q,none⟩=some (.int .i64 r) from by
    have u:=c.out.1.below hW c.out.1.lt;have hw:=c.out.2.trans (hW.mono c.out.2.size)
    exact⟨u.cell 0,u.cell 1,u.cell 2,u.cell 3,brd hw M.out aa⟩))
   clear c0 c1 c2 c3;refine zL 7 (λW=>Bw C W) (by kernel_rfl) ?_;have y:(λW=>Bw C W) C.drew:=(Below.refl _ _).drew
   (refine tkQ 0 y ?_;simp only[nr])
   (refine tkS 1 ?_ y ?_ ?_;rotate_left;intro w o;obtain⟨h0,h1,h2,h3,h4⟩:=a.out _ o;go_simp;(try with_reducible rfl);simp only[nr])
   (refine tkS 2 ?_ y ?_ ?_;rotate_left;intro w o;obtain⟨h0,h1,h2,h3,h4⟩:=a.out _ o;go_simp;(try with_reducible rfl);simp only[nr])
   (refine tkQ 3 y ?_;simp only[nr])
   refine wS1 4 (λK R=> ?_);(go_wp2_with fail);refine(HN.out _ (c.out.2.trans ((Below.refl _ _).drew.mono c.out.2.size))).mono ?_;rintro e w1 ⟨rfl,U⟩;rw[ac.out];have z:Bw C w1:=((Below.refl C.heap.size C).drew).trans U;refine R _ _ (Or.inr z) ?_;clear R K U y
   (try simp only[nr])
   have y:(λW=>Bw C W) w1:=z
   (refine tkQ 5 y ?_;simp only[nr])
   (refine tkS 6 ?_ y ?_ ?_;rotate_left;intro w o;obtain⟨h0,h1,h2,h3,h4⟩:=a.out _ o;go_simp;(try with_reducible rfl);simp only[nr])
   refine wS1 7 (λK R=> ?_);(go_wp2_with fail);refine R _ _ (Or.inl rfl) ?_;clear R K
   (try simp only[nr])
   refine wSd ?_ _;have ad:=c.out.2.trans (z.mono c.out.2.size);clear y z a HN M;go_wp2;go_ret;exact⟨rfl,ad⟩
  ·(have e:zAG g k i v=k:=by rw[E.out,if_neg (λh=>m h.2)]);(have e4:(n.fact==i)=false:=by simp[m]);rw[e];clear e t E J N HN HK m;(go_enter func113,ntmps113);go_wp2;go_ret;exact⟨rfl,HB.out.2⟩
theorem zUL(h:VT t)(a:fits t.dom c=true)(b:l∈t.lines):zCZ t.dom c l.when_=evF t.dom c l.when_:=by
 unfold zCZ;rw[a,(h.ok l b).2];rfl
theorem zIK{α:Type}{p q:α->Bool}:∀{l:List α},(∀x∈l,p x=q x)->l.findIdx p=l.findIdx q
 |[],_=>rfl
 |x::r,h=>by
  rw[List.findIdx_cons,List.findIdx_cons,h x (by simp),zIK λy a=>h y (by simp[a])]
theorem zNd(h:VT t)(a:fits t.dom c=true):zAw t c=t.lines.findIdx λl=>evF t.dom c l.when_:=
 zIK λ_ b=>zUL h a b
theorem zJt{α:Type}(p:α->Bool):∀l:List α,l.find? p=l[l.findIdx p]?
 |[]=>rfl
 |x::r=>by
  rw[List.find?_cons,List.findIdx_cons];cases p x
  ·simp[zJt p r]
  ·simp
theorem zIq(h:VT t)(a:fits t.dom c=true):zBA t.dom c t.lines=t.lines[zAw t c]? :=by
 unfold zBA;rw[zJt,zNd h a]
theorem zIB(h:VT t)(a:fits t.dom c=true)(b:zBA t.dom c t.lines=some l):
  zAR t c=(((zAw t c:Nat):Int),0)/\∃hi:zAw t c<t.lines.length,t.lines[zAw t c]=l:=by
 rw[zIq h a]at b;obtain⟨hi,e⟩:=List.getElem?_eq_some_iff.1 b;unfold zAR;rw[zAj.2 h,a,if_neg (by simp),if_pos hi];exact⟨rfl,hi,e⟩
theorem zKq(h:VT t)(a:fits t.dom c=true)(b:zBA t.dom c t.lines=none):zAR t c=(0,11):=by
 rw[zIq h a,List.getElem?_eq_none_iff]at b;unfold zAR;rw[zAj.2 h,a,if_neg (by simp),if_neg (by omega)]
theorem zEf:zAe ds c ls=none↔zBA ds c ls=none:=by
 unfold zAe;exact Option.map_eq_none_iff
theorem zVG(h:VT t)(a:fits t.dom c=true):
  ((zBF t).2≠0->zBF t=(none,2))/\((zBF t).2=0->(zBF t).1=none->(zAR t c).2=0)/\
  ((zBF t).2=0->∀p,(zBF t).1=some p->zAR t p=(0,11)/\((zAR t c).2=0\/¬zMb c p)):=by
 have k:=zAj.2 h;obtain⟨he,d⟩:=zEB h;unfold zBF;rw[k,if_neg (by simp)];by_cases b:(ofS t).err =0
 ·have K:=d b;rw[if_neg (by simpa using b)];refine⟨λh=>absurd rfl h,λ_ i=> ?_,λ_ p j=> ?_⟩
  ·have:=(zIE K.rest.1 i).1 c;rw[K.rest.2 c (zHX a),decide_eq_false_iff_not,zEf]at this;obtain⟨l,g⟩:=Option.ne_none_iff_exists'.1 this;rw[(zIB h a g).1]
  ·obtain⟨V,F,T,L⟩:=zGC j;rw[K.rest.2 p F,decide_eq_true_eq,zEf]at T;refine⟨zKq h (zQf h.dom F) T,?_⟩
   cases e:zBA t.dom c t.lines with
   |some l=>left;rw[(zIB h a e).1]
   |none=>
    right;exact L c (zHX a) (by rw[K.rest.2 c (zHX a),decide_eq_true_eq,zEf];exact e)
 ·have f:(ofS t).err =2:=he.resolve_left b;rw[if_pos b,f];exact⟨λ_=>rfl,λh=>absurd h (by decide),λh=>absurd h (by decide)⟩
theorem zD9{ds:List zC}:∀{l:List (List zB)}{i:Nat}{x:Int},x∈zAL ds l i->∃j,x=((i+j:Nat):Int)/\j<l.length/\zBC ds (l.getD j [])=none
 |[],_,_,h=>by simp[zAL]at h
 |g::r,i,x,h=>by
  unfold zAL at h;split at h
  ·obtain⟨j,a,b,c⟩:=zD9 h;exact⟨j+1,by rw[a];omega,by simpa using b,by simpa using c⟩
  ·rename_i hg;rcases List.mem_cons.1 h with rfl|h
   ·exact⟨0,by simp,by simp,by simpa using hg⟩
   ·obtain⟨j,a,b,c⟩:=zD9 h;exact⟨j+1,by rw[a];omega,by simpa using b,by simpa using c⟩
theorem zTI{l:List (List zB)}{x:Int}(h:x∈zAL ds l i):(i:Int)<=x:=by
 obtain⟨j,e,-,-⟩:=zD9 h;omega
theorem zGf{ds:List zC}:∀(l:List (List zB))(i:Nat),(zAL ds l i).Pairwise (· < ·)
 |[],_=>by simp[zAL]
 |g::r,i=>by
  unfold zAL;split
  ·exact zGf r (i+1)
  ·exact List.pairwise_cons.2 ⟨λx a=>by have:=zTI a;omega,zGf r (i+1)⟩
theorem zMR{ds:List zC}:∀(l:List (List zB))(i j:Nat),j<l.length->zBC ds (l.getD j [])=none->((i+j:Nat):Int)∈zAL ds l i
 |[],_,_,h,_=>absurd h (by simp)
 |g::r,i,0,_,h=>by
  unfold zAL;rw[if_neg (by simp at h;simp[h])];simp
 |g::r,i,j+1,hj,h=>by
  have:=zMR r (i+1) j (by simpa using hj) (by simpa using h);rw[show i+(j+1)=i+1+j from by omega];unfold zAL;split
  ·exact this
  ·exact List.mem_cons_of_mem _ this
theorem zNe(e:zN ds=true):zC1 ds fFm=([zBN],0):=by
 have a:zDj fFm=0:=by unfold zDj fFm;simp[zA0,zAH,zUi]
 have b:zU ⟨#[]⟩ 0 fFm=fFm:=by unfold fFm;simp[zU]
 have c:zu ds 0 fFm ⟨[],[],false⟩=(0,⟨[zBN],[],false⟩):=by
  cases ds<;>simp[zu,fFm,Fm.op,zBd,zo,zBN]
 have d:zA8 ds [zBN] 0=[zBN]:=by
  unfold zA8 zB2 zz;simp[nAt,zBN,zAl]
 unfold zC1;rw[if_neg (by simp[e,(zE8 ds).2]),a,if_neg (by omega),b,c];simp only;rw[d];simp
theorem zTJ(h:VT t)(he:(ofS t).err =0)(o:zAI):(atE t.dom 0 (ofS t).wh o).2=0/\zT t.dom (atE t.dom 0 (ofS t).wh o).1/\∀c,Fit t.dom c->S t.dom (atE t.dom 0 (ofS t).wh o).1 0 c=decide (zBL t c=o):=by
 have B:=(zEB h).2 he;unfold atE
 cases b:kvD (ofS t).wh o with
 |some g=>exact⟨rfl,B.wh o g b⟩
 |none=>
  have a:zA6 t.dom 0 fFm=([zBN],0):=zNe h.dom;show(zA6 t.dom 0 fFm).2=0/\zT t.dom (zA6 t.dom 0 fFm).1/\∀c,Fit t.dom c->S t.dom (zA6 t.dom 0 fFm).1 0 c=decide (zBL t c=o);obtain⟨-,j,i⟩:=zHJ (ds:=t.dom) (e:=0) (f:=fFm) (by rw[a]);refine⟨by rw[a],j,λc d=> ?_⟩;rw[i c d,zQ2,eq_comm,decide_eq_false_iff_not];rintro rfl;have:=(B.outs _).1 (B.has c);rw[b]at this;cases this
def zGl(a b:zY)(c:List Int)(o:zAI):Bool:= !(decide (zBL a c=o)&&decide (zBL b c=o))
theorem left_step{a b:zY}(s:VT a)(t:VT b)(u:a.dom=b.dom)(n:(ofS a).err =0)(q:(ofS b).err =0):∀(os:List zAI)(done:List zAI)(st:List zB × Int),
  (∀o∈os,o∈(ofS a).outs)->(st.2=0\/st.2=2)->(st.2=0->zT a.dom st.1/\∀c,Fit a.dom c->S a.dom st.1 0 c=done.all (zGl a b c))->
  ((os.foldl (zBt a.dom (ofS a) (ofS b)) st).2=0\/(os.foldl (zBt a.dom (ofS a) (ofS b)) st).2=2)/\
  ((os.foldl (zBt a.dom (ofS a) (ofS b)) st).2=0->zT a.dom (os.foldl (zBt a.dom (ofS a) (ofS b)) st).1/\∀c,Fit a.dom c->S a.dom (os.foldl (zBt a.dom (ofS a) (ofS b)) st).1 0 c=(done++os).all (zGl a b c))
 |[],done,st,_,h1,h2=>by simpa using⟨h1,h2⟩
 |o::os,done,st,hm,h1,h2=>by
  have A:=(zEB s).2 n;obtain⟨I,B,w⟩:=zTJ t q o;rw[<-u]at I B w;obtain⟨g,v⟩:=Option.isSome_iff_exists.1 ((A.outs o).1 (hm o (by simp)));obtain⟨gv,C⟩:=A.wh o g v;have f:atE a.dom st.2 (ofS a).wh o=(g,st.2):=by unfold atE;rw[v]
  have e:zBt a.dom (ofS a) (ofS b) st o=zAx a.dom (zAx a.dom st.2 g (atE a.dom 0 (ofS b).wh o).1).2 st.1 (zAC (zAx a.dom st.2 g (atE a.dom 0 (ofS b).wh o).1).1):=by
   unfold zBt;simp only[f]
  generalize (atE a.dom 0 (ofS b).wh o).1=y at*;have z0:(zAx a.dom st.2 g y).2=0\/(zAx a.dom st.2 g y).2=2:=zJi (λ_=>gv) (λ_=>B) h1
  have i:(zAx a.dom st.2 g y).2=0->st.2=0/\zT a.dom (zAx a.dom st.2 g y).1/\∀c,Fit a.dom c->S a.dom (zAx a.dom st.2 g y).1 0 c=(S a.dom g 0 c&&S a.dom y 0 c):=λh=>by
   obtain⟨j,-,-,k,m⟩:=zJh h;exact⟨j,k,m⟩
  generalize zAx a.dom st.2 g y=z at*
  have G:(zBt a.dom (ofS a) (ofS b) st o).2=0\/(zBt a.dom (ofS a) (ofS b) st o).2=2:=by
   rw[e];exact zJi (λh=>(h2 (i h).1).1) (λh=>zEX (i h).2.1) z0
  have H:(zBt a.dom (ofS a) (ofS b) st o).2=0->zT a.dom (zBt a.dom (ofS a) (ofS b) st o).1/\∀c,Fit a.dom c->S a.dom (zBt a.dom (ofS a) (ofS b) st o).1 0 c=(done++[o]).all (zGl a b c):=by
   rw[e];intro h;obtain⟨j,-,-,k,m⟩:=zJh h;obtain⟨D,E,F⟩:=i j;refine⟨k,λc d=> ?_⟩;rw[m c d,(h2 D).2 c d,(zMG E).2,F c d,C c d,w c d,List.all_append];simp[zGl]
  have:=left_step s t u n q os (done++[o]) (zBt a.dom (ofS a) (ofS b) st o) (λx f=>hm x (by simp[f])) G H;rw[List.append_assoc]at this;exact this
theorem zVH(f:VT a)(t:VT b)(u:a.dom=b.dom)(m:(ofS a).err =0)(n:(ofS b).err =0):
  ((zD8 a.dom (ofS a) (ofS b)).2=0\/(zD8 a.dom (ofS a) (ofS b)).2=2)/\
  ((zD8 a.dom (ofS a) (ofS b)).2=0->zT a.dom (zD8 a.dom (ofS a) (ofS b)).1/\∀c,Fit a.dom c->S a.dom (zD8 a.dom (ofS a) (ofS b)).1 0 c=decide (zBL a c≠zBL b c)):=by
 have A:=(zEB f).2 m
 obtain⟨q,s⟩:=left_step f t u m n (ofS a).outs [] (zA6 a.dom 0 tFm) (λ_ h=>h) (zIk f.dom (zE8 _).1 (.inl rfl)) (λh=>by
  obtain⟨-,j,k⟩:=zHJ h
  exact⟨j,λc g=>by rw[k c g,zKR];rfl⟩)
 refine⟨q,λh=> ?_⟩;obtain⟨j,k⟩:=s h;refine⟨j,λc g=> ?_⟩;refine(k c g).trans ?_;rw[List.nil_append,Bool.eq_iff_iff,List.all_eq_true,decide_eq_true_eq];constructor
 ·intro d e;have:=d _ (A.has c);unfold zGl at this;rw[<-e]at this;simp at this
 ·intro i o _;unfold zGl;by_cases h:zBL a c=o
  ·subst h;simp;exact λe=>i e.symm
  ·simp[h]
theorem zHO(e:VT a)(f:VT b)(i:a.dom=b.dom):
  ((zS a b).2=2/\(zS a b).1=none)\/((zS a b).2=0/\∃g,zT a.dom g/\(∀c,Fit a.dom c->S a.dom g 0 c=decide (zBL a c≠zBL b c))/\(zS a b).1=zBC a.dom g):=by
 unfold zS;rw[if_neg (by rw[zAj.2 e,zAj.2 f];simp[i])];have k:=(zEB e).1;have m:=(zEB f).1;by_cases he:(ofS a).err ≠0\/(ofS b).err ≠0
 ·rw[if_pos he];refine .inl ⟨?_,rfl⟩;show max (ofS a).err (ofS b).err =2;omega
 ·rw[if_neg he];simp only[not_or,ne_eq,Decidable.not_not]at he;obtain⟨j,h⟩:=zVH e f i he.1 he.2;by_cases d:(zD8 a.dom (ofS a) (ofS b)).2=0
  ·rw[if_neg (by simpa using d)];exact .inr ⟨rfl,_,(h d).1,(h d).2,rfl⟩
  ·rw[if_pos d];exact .inl ⟨j.resolve_left d,rfl⟩
theorem zIC(d:VT a)(e:VT b)(f:a.dom=b.dom)(h:∀c,Fit a.dom c->zBL a c=zBL b c):(zS a b).1=none/\((zS a b).2=0\/(zS a b).2=2):=by
 rcases zHO d e f with⟨h1,h2⟩|⟨h1,g,h2,h3,h4⟩
 ·exact⟨h2,.inr h1⟩
 ·refine⟨?_,.inl h1⟩;rw[h4]
  cases i:zBC a.dom g with
  |none=>rfl
  |some p=>
   obtain⟨-,F,T,-⟩:=zGC i;rw[h3 p F,decide_eq_true_eq]at T;exact absurd (h p F) T
theorem zRj(f:VT a)(n:VT b)(i:a.dom=b.dom):
  ((zS a b).2=0\/(zS a b).2=2)/\((zS b a).2=0\/(zS b a).2=2)/\
  ((zS a b).2=0->(zS b a).2=0->(zS b a).1=(zS a b).1/\
   (∀p,(zS a b).1=some p->fits a.dom p=true/\zBL a p≠zBL b p/\∀c,fits a.dom c=true->zMb c p->zBL a c=zBL b c)/\
   ((zS a b).1=none->∀c,fits a.dom c=true->zBL a c=zBL b c)):=by
 have k:=zHO f n i;have m:=zHO n f i.symm;refine⟨by rcases k with h|h;exact .inr h.1;exact .inl h.1,by rcases m with h|h;exact .inr h.1;exact .inl h.1,λz1 z2=> ?_⟩;rcases k with⟨h,-⟩|⟨-,g,gv,gs,ge⟩
 ·rw[h]at z1;exact absurd z1 (by decide)
 ·rcases m with⟨h,-⟩|⟨-,g',gv',gs',ge'⟩
  ·rw[h]at z2;exact absurd z2 (by decide)
  ·rw[<-i]at gv' gs' ge';(have o:g'=g:=gv'.eq gv λc d=>by rw[gs' c d,gs c d,decide_eq_decide];exact⟨λh e=>h e.symm,λh e=>h e.symm⟩);rw[ge,ge',o];refine⟨rfl,λp s=> ?_,λq c d=> ?_⟩
   ·obtain⟨-,F,T,L⟩:=zGC s;rw[gs p F,decide_eq_true_eq]at T;refine⟨zQf f.dom F,T,λc d j=> ?_⟩;by_cases e:zBL a c=zBL b c
    ·exact e
    ·exact absurd j (L c (zHX d) (by rw[gs c (zHX d),decide_eq_true_eq];exact e))
   ·have:=(zIE gv q).1 c;rw[gs c (zHX d),decide_eq_false_iff_not,ne_eq,Decidable.not_not]at this;exact this
theorem zRk(hi:i<ls.length)(h:((zBA ds c (ls.take i)).isNone &&evF ds c ls[i].when_)=false):zAe ds c (ls.take i++ls.drop (i+1))=zAe ds c ls:=by
 have e:ls=ls.take i++ls[i]::ls.drop (i+1):=by rw[List.getElem_cons_drop];exact(List.take_append_drop i ls).symm
 unfold zAe
 conv=>rhs;rw[e]
 congr 1;unfold zBA at h⊢;rw[List.find?_append,List.find?_append,List.find?_cons]
 cases a:(ls.take i).find? (λl=>evF ds c l.when_)with
 |some x=>rfl
 |none=>
  rw[a]at h;simp only[Option.isNone_none,Bool.true_and]at h;rw[h]
theorem zUM(h:VT t)(f:fits t.dom c=true):
  ((zBe t).2≠0->zBe t=([],2))/\((zBe t).2=0->(∀x∈(zBe t).1,0<=x/\x<t.lines.length/\((zAR t c).2=0->(zAR t c).1≠x))/\(zBe t).1.Pairwise (· < ·)/\
   ∀d:Nat,(d:Int)∈(zBe t).1->2<=t.lines.length->(zS t ⟨t.dom,t.lines.take d++t.lines.drop (d+1)⟩).1=none/\((zS t ⟨t.dom,t.lines.take d++t.lines.drop (d+1)⟩).2=0\/(zS t ⟨t.dom,t.lines.take d++t.lines.drop (d+1)⟩).2=2)):=by
 have C:=zAj.2 h;obtain⟨he,w⟩:=zEB h;unfold zBe;rw[C,if_neg (by simp)];by_cases o:(ofS t).err =0
 ·have K:=w o;rw[if_neg (by simpa using o)]
  have b:∀d:Nat,(d:Int)∈zAL t.dom (ofS t).parts 0->∃q:d<t.lines.length,∀c,Fit t.dom c->((zBA t.dom c (t.lines.take d)).isNone &&evF t.dom c t.lines[d].when_)=false:=λd q=>by
   obtain⟨j,e,m,A⟩:=zD9 q;(have:d=j:=by omega);subst this;rw[K.plen]at m;refine⟨m,λc f=> ?_⟩;rw[<-(K.part d m).2 c f];exact(zIE (K.part d m).1 A).1 c
  refine⟨λh=>absurd rfl h,λ_=>⟨λx n=> ?_,zGf _ _,λd q z=> ?_⟩⟩
  ·obtain⟨j,e,m,A⟩:=zD9 n;(have D:x=(j:Int):=by omega);subst D;obtain⟨a,g⟩:=b j n;refine⟨by omega,by omega,λs F=> ?_⟩
   have u:(zAR t c).1=(zAw t c:Nat)/\zAw t c<t.lines.length:=by
    unfold zAR at s⊢;rw[C,f,if_neg (by simp)]at s⊢;split at s
    ·rename_i hlt;exact⟨by rw[if_pos hlt],hlt⟩
    ·exact absurd s (by decide)
   rw[u.1]at F;(have y:zAw t c=j:=by omega);have n:=g c (zHX f);have v:=zIq h f;rw[y,List.getElem?_eq_getElem a]at v;unfold zBA at v;rw[zNd h f]at y;have H:evF t.dom c t.lines[j].when_ =true:=List.find?_some (p:=λ(l:zI)=>evF t.dom c l.when_) v;rw[H,Bool.and_true,Option.isNone_eq_false_iff,Option.isSome_iff_exists]at n;obtain⟨l,k⟩:=n;unfold zBA at k;have G:=List.mem_of_find?_eq_some k;have B:=List.find?_some k;obtain⟨i,E,rfl⟩:=List.getElem_of_mem G;rw[List.length_take]at E;rw[List.getElem_take]at B;have:=List.not_of_lt_findIdx (p:=λl=>evF t.dom c l.when_) (xs:=t.lines) (i:=i) (by omega);simp only[B]at this;exact absurd this (by decide)
  ·obtain⟨a,g⟩:=b d q;refine zIC h ?_ rfl λc f=> ?_
   ·refine⟨h.dom,?_,?_,λl a=>h.ok l ?_⟩
    ·simp;omega
    ·have:=h.le;simp;omega
    ·rcases List.mem_append.1 a with a|a
     ·exact List.mem_of_mem_take a
     ·exact List.mem_of_mem_drop a
   ·unfold zBL;rw[zRk a (g c f)]
 ·have z:(ofS t).err =2:=he.resolve_left o;rw[if_pos o,z];exact⟨λ_=>rfl,λh=>absurd h (by decide)⟩
theorem zPy(b:l∈ls):zAe ds c (ls++[l])=zAe ds c ls:=by
 rw[zGd]
 cases a:zAe ds c ls with
 |some o=>rfl
 |none=>
  rw[zEf]at a;unfold zBA at a;have:=List.find?_eq_none.1 a l b;rw[if_neg this];rfl
theorem zRl(a:zAo x=zAo y)(p r:List zI):zAe ds c (p++x::y::r)=zAe ds c (p++y::x::r):=by
 unfold zAe zBA;rw[List.find?_append,List.find?_append]
 cases p.find? (λl=>evF ds c l.when_)with
 |some o=>rfl
 |none=>
  simp only[Option.none_or,List.find?_cons];cases evF ds c x.when_<;>cases evF ds c y.when_<;>simp[a]
theorem zRm(h:VT t)(d:t.lines.length<100)(b:l∈t.lines):(zS t ⟨t.dom,t.lines++[l]⟩).1=none/\((zS t ⟨t.dom,t.lines++[l]⟩).2=0\/(zS t ⟨t.dom,t.lines++[l]⟩).2=2):=by
 refine zIC h ⟨h.dom,by simp,by simp;omega,λx a=>h.ok x ?_⟩ rfl λc e=> ?_
 ·rcases List.mem_append.1 a with a|a
  ·exact a
  ·simp only[List.mem_singleton]at a;subst a;exact b
 ·unfold zBL;rw[zPy b]
theorem zRn(h:VT t){p r:List zI}(e:t.lines=p++x::y::r)(d:zAo x=zAo y):(zS t ⟨t.dom,p++y::x::r⟩).1=none/\((zS t ⟨t.dom,p++y::x::r⟩).2=0\/(zS t ⟨t.dom,p++y::x::r⟩).2=2):=by
 have b:=h.le;rw[e]at b;refine zIC h ⟨h.dom,by simp;omega,by simpa using b,λz a=>h.ok z ?_⟩ rfl λc f=> ?_
 ·rw[e];simp only[List.mem_append,List.mem_cons]at a⊢;rcases a with a|a|a|a
  ·exact .inl a
  ·exact .inr (.inr (.inl a))
  ·exact .inr (.inl a)
  ·exact .inr (.inr (.inr a))
 ·unfold zBL;rw[e,zRl d]
def zBY:zI:=⟨tFm,⟨#[114,101,115,116]⟩,false⟩
theorem zRo:zCf ⟨#[114,101,115,116]⟩=true:=by decide+kernel
theorem zRp(h:VT t)(b:t.lines.length<100):VT ⟨t.dom,t.lines++[zBY]⟩:=
 ⟨h.dom,by simp,by simp;omega,λl a=>by
  rcases List.mem_append.1 a with a|a
  ·exact h.ok l a
  ·simp only[List.mem_singleton]at a;subst a;exact⟨zRo,(zE8 _).1⟩⟩
theorem zQ5(h:VT t):(zBF t).2=(ofS t).err :=by
 unfold zBF;rw[zAj.2 h,if_neg (by simp)];split
 ·rfl
 ·rename_i h0;simp only[ne_eq,Decidable.not_not]at h0;exact h0.symm
theorem zUN(h:VT t):(zBe t).2=(ofS t).err :=by
 unfold zBe;rw[zAj.2 h,if_neg (by simp)];split
 ·rfl
 ·rename_i h0;simp only[ne_eq,Decidable.not_not]at h0;exact h0.symm
theorem zUO(h:VT t)(o:t.lines.length<100):
  (zBF t).2≠1/\(zBF ⟨t.dom,t.lines++[zBY]⟩).2≠1/\(zBe ⟨t.dom,t.lines++[zBY]⟩).2≠1/\
  ((zBF t).2=0->(zBF ⟨t.dom,t.lines++[zBY]⟩).2=0->(zBe ⟨t.dom,t.lines++[zBY]⟩).2=0->
   (zBF ⟨t.dom,t.lines++[zBY]⟩).1=none/\((zBe ⟨t.dom,t.lines++[zBY]⟩).1.getLast? =some (t.lines.length:Int)↔(zBF t).1=none)):=by
 have g:=zRp h o;have G:=(zEB h).1;have H:=(zEB g).1;rw[zQ5 h,zQ5 g,zUN g];refine⟨by omega,by omega,by omega,λz1 z2 _=> ?_⟩;have K:=(zEB h).2 z1;have M:=(zEB g).2 z2
 have B:(zBF t).1=zBC t.dom ((kvD (ofS t).wh zAi).getD []):=by
  unfold zBF;rw[zAj.2 h,if_neg (by simp),if_neg (by simpa using z1)]
 have u:(zBF ⟨t.dom,t.lines++[zBY]⟩).1=zBC t.dom ((kvD (ofS ⟨t.dom,t.lines++[zBY]⟩).wh zAi).getD []):=by
  unfold zBF;rw[zAj.2 g,if_neg (by simp),if_neg (by simpa using z2)]
 have m:(zBe ⟨t.dom,t.lines++[zBY]⟩).1=zAL t.dom (ofS ⟨t.dom,t.lines++[zBY]⟩).parts 0:=by
  unfold zBe;rw[zAj.2 g,if_neg (by simp),if_neg (by simpa using z2)]
 refine⟨?_,?_⟩
 ·rw[u]
  cases A:zBC t.dom ((kvD (ofS ⟨t.dom,t.lines++[zBY]⟩).wh zAi).getD [])with
  |none=>rfl
  |some p=>
   obtain⟨-,F,T,-⟩:=zGC A;have:=M.rest.2 p F;rw[show S t.dom _ 0 p=true from T]at this;(have n:zAe t.dom p (t.lines++[zBY])=none:=by simpa using this.symm);rw[zGd,if_pos (show evF t.dom p zBY.when_=true from zKR p)]at n;cases C:zAe t.dom p t.lines<;>rw[C]at n<;>cases n
 ·have D:(ofS ⟨t.dom,t.lines++[zBY]⟩).parts.length =t.lines.length+1:=by rw[M.plen];simp
  have y:=M.part t.lines.length (by simp)
  have v:∀c,Fit t.dom c->S t.dom ((ofS ⟨t.dom,t.lines++[zBY]⟩).parts.getD t.lines.length []) 0 c=decide (zAe t.dom c t.lines=none):=λc i=>by
   have:=y.2 c i;refine this.trans ?_;simp only[List.take_append_of_le_length (Nat.le_refl _),List.take_length,List.getElem_append_right (Nat.le_refl _),Nat.sub_self,List.getElem_cons_zero];rw[show evF t.dom c zBY.when_=true from zKR c,Bool.and_true,zIl];cases zAe t.dom c t.lines<;>simp
  have k:(ofS ⟨t.dom,t.lines++[zBY]⟩).parts.getD t.lines.length []=(kvD (ofS t).wh zAi).getD []:=by
   (refine zT.eq (ds:=t.dom) y.1 K.rest.1 λc i=> ?_);rw[v c i,K.rest.2 c i]
  rw[B,m,<-k];have b:=zGf (ds:=t.dom) (ofS ⟨t.dom,t.lines++[zBY]⟩).parts 0;constructor
  ·intro d;have a:=List.mem_of_getLast? d;obtain⟨j,e,z,f⟩:=zD9 a;(have:j=t.lines.length:=by omega);subst this;exact f
  ·intro f;have a:=zMR (ds:=t.dom) (ofS ⟨t.dom,t.lines++[zBY]⟩).parts 0 t.lines.length (by omega) f;rw[Nat.zero_add]at a
   have w:∀x∈zAL t.dom (ofS ⟨t.dom,t.lines++[zBY]⟩).parts 0,x<=(t.lines.length:Int):=λx E=>by
    obtain⟨j,e,z,-⟩:=zD9 E;omega
   generalize zAL t.dom (ofS ⟨t.dom,t.lines++[zBY]⟩).parts 0=L at*;obtain⟨s,r,rfl⟩:=List.append_of_mem a
   cases r with
   |nil=>simp
   |cons q r=>
    exfalso;rw[List.pairwise_append]at b;have I:=(List.pairwise_cons.1 b.2.1).1 q (by simp);have J:=w q (by simp);omega
theorem Tryz.egFP11:∀args w,(callFunc 81 args).run prog w= .ok (.enter 81 args) w:=enters_of func81 (by kernel_rfl) rfl
theorem zRq(d:Nat)(v:Value)(w:World)(a:Blk w d 24 #[v]):
  Calls prog 81 #[.pointer (some ⟨d,0,none⟩)] w λe w'=>e= .returned (.tuple #[])/\Blk w' d 24 #[.slice none 0 0]/\zA (λc=>c≠d) w w':=by
 have f:=a.at0;have g:=a.frozen 0;have i:=a.lt;have b:=hid a;clear a;go_enter func81,ntmps81
 go_wp2;go_end0;exact⟨rfl,b.out.set_ 0 _,(zA.refl _ _).setCell (λ_ h=>h rfl) _⟩
theorem zPz(d:Value)(c a:Value)(w:World):
  Calls prog 80 #[.nilIface,d,c,a] w λe w'=>e= .returned (.tuple #[])/\w'=w:=by
 have b:∀w:World,(binOp BinOp.eql 20 .nilIface .nilIface).run prog w= .ok (.bool true) w:=λ_=>by kernel_rfl
 go_enter func80,ntmps80
 go_wp2;exact bodyPost_ret (results_none rfl _ _ _) rfl ⟨rfl,rfl⟩
theorem zQA(d b a:Nat)(f:Flt)(v0:Value)(T U:Int)(w:World)(B:Blk w d 24 #[v0])(he:Blk w b 32 #[.int .i64 T])(Q:Blk w a 3 #[.int .i64 U])(N:d≠b)(O:d≠a)(P:b≠a):
  Calls prog 80 #[zB1 198 f,.func (.func 81) #[] #[.pointer (some ⟨d,0,none⟩)],.pointer (some ⟨b,0,none⟩),.pointer (some ⟨a,0,none⟩)] w λe w'=>
   e= .returned (.tuple #[])/\Blk w' d 24 #[.slice none 0 0]/\Blk w' b 32 #[.int .i64 f.1]/\Blk w' a 3 #[.int .i64 f.2]/\zA (λc=>c≠d/\c≠b/\c≠a) w w':=by
 obtain⟨i,k⟩:=f;unfold zB1;dsimp only;have eg:=Tryz.egFP11;have R:∀w:World,(binOp BinOp.eql 20 (.iface 198 (.agg #[.int .i64 i,.int .i64 k])) .nilIface).run prog w= .ok (.bool false) w:=λ_=>by kernel_rfl
 have Y:∀w:World,(Instr.typeAssert (.iface 198 (.agg #[.int .i64 i,.int .i64 k])) 20 198 false).run prog w= .ok (.agg #[.int .i64 i,.int .i64 k]) w:=λ_=>by kernel_rfl
 have t:=hid (λ(W:World)(X:Bw w W)=>zRq d v0 W (B.below X B.lt));have M:=hid B;have D:=hid he;have C:=hid Q;clear B he Q;go_enter func80,ntmps80
 go_wp2_with fail
 refine(t.out _ (zF _ _)).mono ?_;rintro e A ⟨rfl,x,j⟩;have I:=M.out.lt;have J:=D.out.lt;have G:=C.out.lt;have z:=(Blk.new w 198 #[.int .i64 i,.int .i64 k]).keep j (by omega);have y:=(D.out.alloc (.cells #[.int .i64 i,.int .i64 k] 198)).keep j (λh=>N h.symm);have v:=(C.out.alloc (.cells #[.int .i64 i,.int .i64 k] 198)).keep j (λh=>O h.symm);have u:=hid (((zA.refl (λc=>c≠d/\c≠b/\c≠a) w).alloc (.cells #[.int .i64 i,.int .i64 k] 198)).trans (j.mono λ_ _ h=>h.1));have L:w.heap.size≠b/\w.heap.size≠a/\w.heap.size≠d:=by omega
 generalize w.heap.size=F at*;clear j I J G t M D C;go_upto_region 3 with fail
 refine zL 9 (λW=>Blk W F 198 #[.int .i64 i,.int .i64 k]) (by kernel_rfl) ?_;have m:(λW:World=>Blk W F 198 #[.int .i64 i,.int .i64 k]) A.drew:=z;have o:Blk A.drew b 32 #[.int .i64 T]:=y;have n:Blk A.drew a 3 #[.int .i64 U]:=v;have H:Blk A.drew d 24 #[.slice none 0 0]:=x;have E:=hid (u.out.drew);clear x z y v u;generalize A.drew=Z at*
 (refine tkQ 0 m ?_;simp only[nr])
 try simp only[nq]
 (refine tkQ 1 m ?_;simp only[nr])
 try simp only[nq]
 (refine tkQ 2 m ?_;simp only[nr])
 try simp only[nq]
 (refine tkS 3 ?_ m ?_ ?_;rotate_left;intro w g;have x0:=g.at0;have xl:=g.lt;clear g;go_simp;(try with_reducible rfl);simp only[nr])
 try simp only[nq]
 (refine tkQ 4 m ?_;simp only[nr])
 try simp only[nq]
 (refine tkS 5 ?_ m ?_ ?_;rotate_left;intro w g;have x0:=g.at1;have xl:=g.lt;clear g;go_simp;(try with_reducible rfl);simp only[nr])
 try simp only[nq]
 have e0:=o.at0;have ef:=o.frozen 0;have el:=o.lt;have a0:=n.at0;have af:=n.frozen 0;have al:=n.lt
 (refine tkQ 6 m ?_;simp only[nr])
 try simp only[nq]
 refine wS1 7 (λK q=> ?_);go_wp2_with fail
 have s:Blk (Z.setCell ⟨b,0,none⟩ (.int .i64 i)) F 198 #[.int .i64 i,.int .i64 k]:=Blk.far (p:=⟨b,0,none⟩) m L.1 (.int .i64 i);refine q _ _ (Or.inr s) ?_;clear q K m;try simp only[nq]
 refine wS1 8 (λK q=> ?_);go_wp2_with fail
 refine q _ _ (Or.inr s) ?_;clear q K s;try simp only[nq]
 have V:¬a=b:=λh=>P h.symm
 refine wS1 9 (λK q=> ?_);go_wp2_with fail
 refine q _ _ (Or.inl rfl) ?_;clear q K;try simp only[nq]
 refine wSd ?_ _;go_wp2_with fail
 go_end0;exact⟨rfl,(H.far (p:=⟨b,0,none⟩) N _).far (p:=⟨a,0,none⟩) O _,(o.set_ 0 _).far (p:=⟨a,0,none⟩) P _,(n.far (p:=⟨b,0,none⟩) V _).set_ 0 _,(E.out.setCell (p:=⟨b,0,none⟩) (λ_ h=>h.2.1 rfl) _).setCell (p:=⟨a,0,none⟩) (λ_ h=>h.2.2 rfl) _⟩
theorem zQB(d c a:Nat)(w:World):
  CallsD prog 79 #[.pointer (some ⟨d,0,none⟩),.pointer (some ⟨c,0,none⟩),.pointer (some ⟨a,0,none⟩)] .returning w λe g w'=>e= .returned (.tuple #[])/\g= .returning /\w'=w:=by
 refine callsD_of_wpS func79 rfl λb h f=> ?_
 apply wpS_region;simp[wpOpsS,go_sem,recoverD,f,ntmps79,Exit.thenS];refine(zPz _ _ _ w).mono ?_;rintro e w' ⟨rfl,rfl⟩;cases b;simp_all [bodyPostS,results,results79]
theorem zRr(d b a:Nat)(f:Flt)(v0:Value)(g h:Int)(w:World)(o:Blk w d 24 #[v0])(he:Blk w b 32 #[.int .i64 g])(n:Blk w a 3 #[.int .i64 h])(j:d≠b)(k:d≠a)(m:b≠a):
  CallsD prog 79 #[.pointer (some ⟨d,0,none⟩),.pointer (some ⟨b,0,none⟩),.pointer (some ⟨a,0,none⟩)] (.panicking [{v:=zB1 198 f,recovered:=false}]) w λe s w'=>e= .returned (.tuple #[])/\s= .panicking [{v:=zB1 198 f,recovered:=true}]/\
   Blk w' d 24 #[.slice none 0 0]/\Blk w' b 32 #[.int .i64 f.1]/\Blk w' a 3 #[.int .i64 f.2]/\zA (λc=>c≠d/\c≠b/\c≠a) w w':=by
 refine callsD_of_wpS func79 rfl λi t q=> ?_
 apply wpS_region;simp[wpOpsS,go_sem,recoverD,q,ntmps79,Exit.thenS];refine(zQA d b a f v0 g h w o he n j k m).mono ?_;rintro e w' ⟨rfl,u⟩;cases i;simp_all [bodyPostS,results,results79]
section
open Go.ChangeShapes Go.WideShapes Go.ChangeAt
section ops
variable {H:Type} {enc:TypeId × Value->H} {w:World} {held:Bool}
theorem zVq:prog.underlying 9=some .string :=underlying9
theorem zV6:prog.underlying 4=some .bool :=underlying4
theorem zVr:prog.cellsOf 9=1:=by kernel_rfl
theorem zV7:prog.cellsOf 4=1:=by kernel_rfl
theorem zUP{m:Nat}{v:Value}{y:DataW H × List MemPlace}(h:DataW.trod enc prog w 0 (λ_=>true) held m 25 [v]=some y)(n:zCI prog 25 y.1):∃xs,zBS (zCt w) w v xs:=by
 obtain⟨a,c,d,I,⟨u,M⟩,⟨z,N⟩,⟨P,O⟩⟩:∃a c d,prog.underlying 42=some (.struct #[a,c,d])/\(a.type=40/\a.offset=0)/\(c.type=9/\c.offset=5)/\(d.type=4/\d.offset=6):=⟨_,_,_,underlying42,⟨rfl,rfl⟩,⟨rfl,rfl⟩,rfl,rfl⟩
 obtain⟨l,A,g,e,D,E,F,G⟩:=zMd (R:=λi(x:zI)=>zA4 (zCt w) w i x) (by decide) underlying25 (show prog.cellsOf 42=7 by kernel_rfl) h n (λm i y _ J L n=>by
  obtain⟨-,k⟩:=zHZ I L n
  match i,J with
  |[c0,c1,c2,c3,c4,c5,c6],_=>
   obtain⟨Q,W,-,o,B⟩:=k 0 a rfl;obtain⟨T,X,-,q,C⟩:=k 1 c rfl;obtain⟨U,Y,-,t,V⟩:=k 2 d rfl;rw[u,M,show prog.cellsOf 40=5 by kernel_rfl]at o;rw[u]at B;rw[z,N,zVr]at q;rw[z]at C;rw[P,O,zV7]at t;obtain⟨f,j⟩:=zVx tys _ _ _ rfl o B;obtain⟨s,rfl,K⟩:=zP8 zVq q C;obtain⟨b,rfl⟩:=zVX zV6 t
   exact⟨⟨f,s,b⟩,_,j,rfl,K⟩)
 rw[show prog.bytesOf 42=88 by kernel_rfl,zJH]at F;obtain rfl:v=_:=by simpa using e
 exact⟨l,⟨A,g,rfl,D,by simpa[maxLen]using E,by omega,G⟩⟩
end ops
section args
variable {H:Type} {enc:TypeId × Value->H} {W:World} {v:Value} {d:DataW H} {ps:List MemPlace} {base:Nat}
theorem zFn(E:Value.okWide prog W .any base 27 v)(C:DataW.Trod enc prog W 0 (λ_=>true) true 27 v d ps)(F:zCI prog 27 d):∃vd q t,v= .agg #[vd,q]/\zAA (zCt W) W vd q t:=by
 obtain⟨w,rfl,c⟩:=okWide_struct underlying27 E;obtain⟨f,z⟩:=C;obtain⟨a,b,D,⟨m,G⟩,⟨n,H⟩⟩:∃a b,prog.underlying 27=some (.struct #[a,b])/\(a.type=24/\a.offset=0)/\(b.type=25/\b.offset=1):=⟨_,_,underlying27,⟨rfl,rfl⟩,rfl,rfl⟩;obtain⟨x,A,⟨k,I⟩⟩:∃a,prog.underlying 24=some (.struct #[a])/\(a.type=22/\a.offset=0):=⟨_,underlying24,rfl,rfl⟩;obtain⟨-,g⟩:=zHZ D z F;obtain⟨l⟩:=w;rw[show prog.cellsOf 27=2 by kernel_rfl]at c
 match l,c with
 |[c0,c1],_=>
  obtain⟨K,M,-,i,s⟩:=g 0 a rfl;obtain⟨L,N,-,j,u⟩:=g 1 b rfl;rw[m,G,show prog.cellsOf 24=1 by kernel_rfl]at i;rw[m]at s;rw[n,H,show prog.cellsOf 25=1 by kernel_rfl]at j;rw[n]at u;obtain⟨-,e⟩:=zHZ A i s;obtain⟨J,z0,-,h,o⟩:=e 0 x rfl;rw[k,I,show prog.cellsOf 22=1 by kernel_rfl]at h;rw[k]at o;obtain⟨ds,y⟩:=zUf tys h o;obtain⟨ls,B⟩:=zUP j u;exact⟨c0,c1,⟨ds,ls⟩,rfl,y,B⟩
theorem bounds_u8{n:Int}(h:(Lit.int .u8 n).wf =true):0<=n/\n<=255:=by
 simp[Lit.wf,IntKind.min,IntKind.max,IntKind.signed,IntKind.bits]at h;omega
theorem zV8(g:Value.okWide prog W .any base 5 v)(f:DataW.Trod enc prog W 0 (λ_=>true) true 5 v d ps)(b:zCI prog 5 d):∃n,v= .int .u8 n/\(0<=n/\n<=255):=by
 obtain⟨n,rfl⟩:=okWide_int underlying5 g;obtain⟨a,c⟩:=f;obtain⟨i,e,-,h⟩:=DataW.trod_int underlying5 c;exact⟨i,by simpa[Value.cells]using e,bounds_u8 h⟩
end args
end
end Go.Proofs.YthpocbeoanipbaaGreatDoor
