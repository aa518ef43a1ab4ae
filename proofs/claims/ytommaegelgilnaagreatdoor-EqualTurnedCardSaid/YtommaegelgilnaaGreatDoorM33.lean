/- Lemmas. -/
import Derived.Lib.OwnBridge
import Derived.Sort.OwnSortedInts
import Derived.Test.YtommaegelgilnaaGreatDoorM30
set_option linter.all false
namespace Go.Proofs.YtommaegelgilnaaGreatDoor
open Go.RowKit Go.Proofs.Tryz
set_option maxHeartbeats 4000000
set_option maxRecDepth 100000
variable {B b base cap g i k n:Nat}{auths:List ByteArray}{bs:List Value}{ds:List zE}{e:TypeId}{ex fb:List Nat}{l:List zF}{m:zF}{nw sg y:Int}{s:zM}{w w':World}{x:ByteArray}{zs:List Int}
section
variable {κ:Type} [DecidableEq κ]
def mapD:List (κ × List zB)->κ->Option (List zB)
 |[],_=>none
 |p::r,x=>if x=p.1 then some p.2 else mapD r x
def zAp:List (κ × List zB)->κ->List zB->List (κ × List zB)
 |[],x,v=>[(x,v)]
 |p::r,x,v=>if x=p.1 then(p.1,v)::r else p::zAp r x v
theorem mapD_same(x:κ)(v:List zB):∀l,mapD (zAp l x v) x=some v
 |[]=>by simp[zAp,mapD]
 |p::r=>by
  unfold zAp;by_cases h:x=p.1
  ·rw[if_pos h,mapD,if_pos h]
  rw[if_neg h,mapD,if_neg h];exact mapD_same x v r
theorem zGN{x y:κ}(v:List zB)(a:y≠x):∀l,mapD (zAp l x v) y=mapD l y
 |[]=>by simp[zAp,mapD,a]
 |p::r=>by
  unfold zAp;by_cases h:x=p.1
  ·rw[if_pos h,mapD,mapD,<-h,if_neg a,if_neg a]
  rw[if_neg h,mapD,mapD,zGN v a r]
end
def zUL:zF:=⟨⟨#[]⟩,⟨#[]⟩,0,⟨#[]⟩,.mk 0 ⟨#[]⟩ 0 0 [],0,0,0⟩
def zq(l:List zF)(i:Nat):zF:=l.getD i zUL
structure zAH where
 err:Int
 built:List (Nat × List zB)
def zAt(ds:List zE)(e:Int)(a b:List zB):List zB × Int:=(zXP (zBH ds e (zXP a) (zXP b)).1,(zBH ds e (zXP a) (zXP b)).2)
def zJ(ds:List zE):List zB:=(zBp ds fFm).1
def ofM(ds:List zE)(l:List zF)(st:zAH)(i:Nat):List zB × zAH:=
 match mapD st.built i with
 |some g=>(g,st)
 |none=>if st.err=0 then((zBp ds (zq l i).when_).1,⟨(zBp ds (zq l i).when_).2,zAp st.built i (zBp ds (zq l i).when_).1⟩)else([],st)
def zFF(s:zM)(sg now:Int)(kind:Int)(m:zF):Bool:=
 decide (placeOf s.auths m.auth<s.auths.length)&&decide (m.kind=kind)&&zD2 m (zA5 s.zones (placeOf s.auths m.auth)) sg now
def zBJ(l:List zF)(s:zM)(sg now kind:Int):List Nat:=(List.range l.length).filter λi=>zFF s sg now kind (zq l i)
def zBe(ds:List zE)(l:List zF)(a mid:ByteArray)(q:List zB × zAH)(k:Nat):List zB × zAH:=
 if(zq l k).auth =a/\(zq l k).target =mid then
  ((zBH ds (ofM ds l q.2 k).2.err q.1 (zXP (ofM ds l q.2 k).1)).1,⟨(zBH ds (ofM ds l q.2 k).2.err q.1 (zXP (ofM ds l q.2 k).1)).2,(ofM ds l q.2 k).2.built⟩)
 else q
def zB5(ds:List zE)(l:List zF)(ex:List Nat)(a:ByteArray)(q:List zB × zAH)(i:Nat):List zB × zAH:=
 if(zq l i).auth ≠a then q else
  let r:=ex.foldl (zBe ds l a (zq l i).id) (ofM ds l q.2 i)
  ((zAt ds r.2.err q.1 r.1).1,⟨(zAt ds r.2.err q.1 r.1).2,r.2.built⟩)
structure zHE where
 own:List (ByteArray × List zB)
 forb:List zB
 st:zAH
def zCE(ds:List zE)(l:List zF)(fb ex:List Nat)(q:zHE)(a:ByteArray):zHE:=
 let r:=fb.foldl (zB5 ds l ex a) (zJ ds,q.st)
 ⟨zAp q.own a r.1,(zAt ds r.2.err q.forb r.1).1,⟨(zAt ds r.2.err q.forb r.1).2,r.2.built⟩⟩
def zCW(ds:List zE)(l:List zF)(own:List (ByteArray × List zB))(q:List zB × zAH)(i:Nat):List zB × zAH:=
 match mapD own (zq l i).target with
 |none=>q
 |some g=>
 let r:=ofM ds l q.2 i;let p:=zBH ds r.2.err r.1 g
 ((zAt ds p.2 q.1 p.1).1,⟨(zAt ds p.2 q.1 p.1).2,r.2.built⟩)
def zBV(l:List zF)(s:zM)(sg now:Int)(st:zAH):List zB × List zB × zAH:=
 let q:=s.auths.foldl (zCE s.dom l (zBJ l s sg now 1) (zBJ l s sg now 2)) ⟨[],zJ s.dom,st⟩;let r:=(zBJ l s sg now 3).foldl (zCW s.dom l q.own) (zJ s.dom,q.st)
 (q.forb,r.1,r.2)
def zER(ds:List zE)(e:Int)(f g:List zB):List zB × Int:=
 let a:=zBH ds e f (zXP g);let b:=zBH ds a.2 g (zXP f)
 zAt ds b.2 a.1 b.1
def zGf(ds:List zE)(e:Int)(f g c d:List zB):List zB × Int:=
 let a:=zER ds e f g;let b:=zER ds a.2 c d
 zAt ds b.2 a.1 b.1
structure zHQ where
 signed:Int
 now:Int
 cas:List Int
 a:zGL
 b:zGL
def zCa:zHQ:=⟨0,0,[],zKw,zKw⟩
def zAv(s:zM)(sg now:Int)(c:List Int):zM:=⟨s.dom,s.auths,s.zones,List.replicate s.auths.length c,sg,now⟩
def zx:List Int->List (Int × Int)
 |[]=>[]
 |x::r=>(x::r).map (λy=>(x,y))++zx r
def zBk(a b:List zF)(s:zM):List (Int × Int)->zAH->zAH->zHQ × Bool × Int
 |[],_,_=>(zCa,false,0)
 |p::r,x,y=>
 let u:=zBV a s p.1 p.2 x;let v:=zBV b s p.1 p.2 y
 if v.2.2.err≠0 then(zCa,false,2)else
 let d:=zGf s.dom u.2.2.err u.1 v.1 u.2.1 v.2.1
 if d.2≠0 then(zCa,false,2)else
 match zDS s.dom d.1 with
 |none=>zBk a b s r ⟨d.2,u.2.2.built⟩ v.2.2
 |some c=>(⟨p.1,p.2,c,(zP a (zAv s p.1 p.2 c)).1,(zP b (zAv s p.1 p.2 c)).1⟩,true,0)
def zJD(a b:List zF)(s:zM):List Int:=(zBd a s.auths s.zones).1++(zBd b s.auths s.zones).1
def zDL(a b:List zF)(s:zM):List Int:=(zJD a b s).foldl zDA []
def zAO(a b:List zF)(s:zM):zHQ × Bool × Int:=
 if zCR s=false then(zCa,false,1)
 else if(zP a s).2≠0 then(zCa,false,(zP a s).2)
 else if(zP b s).2≠0 then(zCa,false,(zP b s).2)
 else if 40<(zDL a b s).length then(zCa,false,2)
 else zBk a b s (zx (zDL a b s)) ⟨0,[]⟩ ⟨0,[]⟩
theorem zRp(e:zT ds=true):zBp ds fFm=([zB9],0):=by
 have a:zDi fFm=0:=by unfold zDi fFm;simp[zAf,zAV,zTV]
 have b:zZ ⟨#[]⟩ 0 fFm=fFm:=by unfold fFm;simp[zZ]
 have c:zz ds 0 fFm ⟨[],[],false⟩=(0,⟨[zB9],[],false⟩):=by
  cases ds<;>simp[zz,fFm,Fm.op,zBw,zy,zB9]
 have d:zAr ds [zB9] 0=[zB9]:=by
  unfold zAr zBm zAI;simp[nAt,zB9,zBF]
 unfold zBp;rw[if_neg (by simp[e,(zOk ds).2]),a,if_neg (by omega),b,c];simp only;rw[d];simp
structure DV (ds:List zE) (g:List zB) (p:List Int->Bool):Prop where
 v:zBP ds g
 s:∀c,Fit ds c->S ds g 0 c=p c
section
variable {ds:List zE} {l:List zF} {p q:List Int->Bool} {a b g:List zB} {e:Int}
theorem DV.not(h:DV ds a p):DV ds (zXP a) (λc=> !p c):=⟨(zTW h.v).1,λc b=>by rw[(zTW h.v).2,h.s c b]⟩
theorem DV.congr(h:DV ds a p)(he:∀c,Fit ds c->p c=q c):DV ds a q:=⟨h.v,λc b=>(h.s c b).trans (he c b)⟩
theorem zCt(h:(zBH ds e a b).2=0):e=0:=(zRe h).1
theorem zH9(h:(zBH ds e a b).2=0)(i:DV ds a p)(j:DV ds b q):DV ds (zBH ds e a b).1 (λc=>p c&&q c):=by
 obtain⟨_,_,_,f,g⟩:=zRe h;exact⟨f,λc d=>by rw[g c d,i.s c d,j.s c d]⟩
theorem zBW(h:(zAt ds e a b).2=0):e=0:=zCt h
theorem zFn(h:(zAt ds e a b).2=0)(d:DV ds a p)(f:DV ds b q):DV ds (zAt ds e a b).1 (λc=>p c||q c):=
 (zH9 h d.not f.not).not.congr λc _=>by simp
theorem zJE(h:(zER ds e a b).2=0):e=0:=zCt (zCt (zBW h))
theorem zNx(h:(zER ds e a b).2=0)(f:DV ds a p)(g:DV ds b q):DV ds (zER ds e a b).1 (λc=>p c !=q c):=by
 have d:=zBW h;have i:=zCt d;exact(zFn h (zH9 i f g.not) (zH9 d g f.not)).congr λc _=>by cases p c<;>cases q c<;>rfl
theorem zNy{f g c d:List zB}(h:(zGf ds e f g c d).2=0):e=0:=zJE (zJE (zBW h))
theorem zTp{f g c d:List zB}{p q r t:List Int->Bool}(h:(zGf ds e f g c d).2=0)(j:DV ds f p)(k:DV ds g q)(b:DV ds c r)(i:DV ds d t):DV ds (zGf ds e f g c d).1 (λx=>(p x !=q x)||(r x !=t x)):=by
 have a:=zBW h;exact zFn h (zNx (zJE a) j k) (zNx a b i)
theorem zKN(f:zT ds=true):DV ds (zJ ds) (λ_=>false):=by
 have a:(zBp ds fFm).2=0:=by rw[zRp f]
 obtain⟨b,d⟩:=zNk (g:=(zBp ds fFm).1) (Prod.ext rfl a);exact⟨b,λc e=>by unfold zJ;rw[d c e,zTc]⟩
def BInv(ds:List zE)(l:List zF)(st:zAH):Prop:=st.err=0->∀i g,mapD st.built i=some g->DV ds g (λc=>evF ds c (zq l i).when_)
theorem zKO{st:zAH}(h:BInv ds l st):BInv ds l (ofM ds l st i).2/\((ofM ds l st i).2.err =0->st.err=0/\DV ds (ofM ds l st i).1 (λc=>evF ds c (zq l i).when_)):=by
 unfold ofM
 cases m:mapD st.built i with
 |some g=>exact⟨h,λhe=>⟨he,h he i g m⟩⟩
 |none=>
 by_cases he:st.err=0
 ·dsimp only;rw[if_pos he]
  have e:(zBp ds (zq l i).when_).2=0->DV ds (zBp ds (zq l i).when_).1 (λc=>evF ds c (zq l i).when_):=λa=>by
   obtain⟨f,j⟩:=zNk (g:=(zBp ds (zq l i).when_).1) (Prod.ext rfl a);exact⟨f,j⟩
  refine⟨λa k g b=> ?_,λa=>⟨he,e a⟩⟩;by_cases d:k=i
  ·subst d;rw[mapD_same]at b;injection b with b;subst b;exact e a
  rw[zGN _ d]at b;exact h he k g b
 dsimp only;rw[if_neg he];exact⟨h,λa=>absurd a he⟩
def zGA(ds:List zE)(l:List zF)(p:List Int->Bool)(q:List zB × zAH):Prop:=BInv ds l q.2/\(q.2.err=0->DV ds q.1 p)
theorem BInv.same{st:zAH}{e:Int}(h:BInv ds l st)(he:e=0->st.err=0):BInv ds l ⟨e,st.built⟩:=λa=>h (he a)
def zID(ds:List zE)(l:List zF)(a mid:ByteArray)(c:List Int)(k:Nat):Bool:=decide ((zq l k).auth =a/\(zq l k).target =mid)&&evF ds c (zq l k).when_
theorem zQZ{a mid:ByteArray}{q:List zB × zAH}(h:zGA ds l p q):zGA ds l (λc=>p c&& !zID ds l a mid c k) (zBe ds l a mid q k):=by
 unfold zBe;by_cases d:(zq l k).auth =a/\(zq l k).target =mid
 ·rw[if_pos d];obtain⟨e,f⟩:=zKO (i:=k) h.1;refine⟨e.same zCt,λb=> ?_⟩;obtain⟨g,j⟩:=f (zCt b);exact(zH9 b (h.2 g) j.not).congr λc _=>by unfold zID;simp[d]
 rw[if_neg d];exact⟨h.1,λb=>(h.2 b).congr λc _=>by unfold zID;simp[d]⟩
theorem zLF{a mid:ByteArray}:∀(ex:List Nat){p:List Int->Bool}{q:List zB × zAH},zGA ds l p q->zGA ds l (λc=>p c&&ex.all λk=> !zID ds l a mid c k) (ex.foldl (zBe ds l a mid) q)
 |[],p,q,h=>⟨h.1,λb=>(h.2 b).congr λc _=>by simp⟩
 |k::r,p,q,h=>by
  have:=zLF (a:=a) (mid:=mid) r (zQZ (k:=k) (a:=a) (mid:=mid) h);exact⟨this.1,λb=>(this.2 b).congr λc _=>by simp[Bool.and_assoc]⟩
def zDo(ds:List zE)(l:List zF)(ex:List Nat)(a:ByteArray)(c:List Int)(i:Nat):Bool:=decide ((zq l i).auth =a)&&(evF ds c (zq l i).when_ &&ex.all λk=> !zID ds l a (zq l i).id c k)
theorem zQ0{a:ByteArray}{q:List zB × zAH}(h:zGA ds l p q):zGA ds l (λc=>p c||zDo ds l ex a c i) (zB5 ds l ex a q i):=by
 unfold zB5;by_cases f:(zq l i).auth =a
 ·rw[if_neg (by simp[f])];dsimp only;obtain⟨m,j⟩:=zKO (i:=i) h.1;obtain⟨n,o⟩:=zLF (a:=a) (mid:=(zq l i).id) ex (q:=ofM ds l q.2 i) ⟨m,λd=>(j d).2⟩
  have b:∀(ex:List Nat)(q:List zB × zAH),(ex.foldl (zBe ds l a (zq l i).id) q).2.err =0->q.2.err=0:=by
   intro ex
   induction ex with
   |nil=>exact λq h=>h
   |cons k r ih=>
   intro q h;have:=ih _ h;unfold zBe at this;split at this
   ·have e:=zCt this;revert e;unfold ofM;split
    ·exact id
    split
    ·rename_i g;exact λ_=>g
    exact id
   exact this
  refine⟨n.same zBW,λd=> ?_⟩;have e:=zBW d;have g:=j (b _ _ e);exact(zFn d (h.2 g.1) (o e)).congr λc _=>by unfold zDo;simp[f]
 rw[if_pos f];exact⟨h.1,λd=>(h.2 d).congr λc _=>by unfold zDo;simp[f]⟩
theorem zLG{ex:List Nat}{a:ByteArray}:∀(fb:List Nat){p:List Int->Bool}{q:List zB × zAH},zGA ds l p q->zGA ds l (λc=>p c||fb.any λi=>zDo ds l ex a c i) (fb.foldl (zB5 ds l ex a) q)
 |[],p,q,h=>⟨h.1,λb=>(h.2 b).congr λc _=>by simp⟩
 |k::r,p,q,h=>by
  have:=zLG (ex:=ex) (a:=a) r (zQ0 (i:=k) (ex:=ex) (a:=a) h);exact⟨this.1,λb=>(this.2 b).congr λc _=>by simp[Bool.or_assoc]⟩
theorem zLl{st:zAH}(h:(ofM ds l st i).2.err =0):st.err=0:=by
 revert h;unfold ofM;split
 ·exact id
 split
 ·rename_i h6;exact λ_=>h6
 exact id
theorem zLH{a mid:ByteArray}:∀(ex:List Nat)(q:List zB × zAH),(ex.foldl (zBe ds l a mid) q).2.err =0->q.2.err=0
 |[],_,h=>h
 |k::r,q,h=>by
  have:=zLH r _ h;unfold zBe at this;split at this
  ·exact zLl (zCt this)
  exact this
theorem zIE{ex:List Nat}{a:ByteArray}:∀(fb:List Nat)(q:List zB × zAH),(fb.foldl (zB5 ds l ex a) q).2.err =0->q.2.err=0
 |[],_,h=>h
 |k::r,q,h=>by
  have:=zIE r _ h;unfold zB5 at this;split at this
  ·exact this
  exact zLl (zLH _ _ (zBW this))
structure zQ1 (ds:List zE) (l:List zF) (fb ex:List Nat) (done:List ByteArray) (q:zHE):Prop where
 b:BInv ds l q.st
 f:q.st.err=0->DV ds q.forb (λc=>done.any λa=>fb.any λi=>zDo ds l ex a c i)
 o:q.st.err=0->∀a g,mapD q.own a=some g->DV ds g (λc=>fb.any λi=>zDo ds l ex a c i)
 d:∀a,(mapD q.own a).isSome =decide (a∈done)
theorem zQ2(y:zT ds=true){done:List ByteArray}{q:zHE}{a:ByteArray}(h:zQ1 ds l fb ex done q):zQ1 ds l fb ex (done++[a]) (zCE ds l fb ex q a):=by
 obtain⟨v,w⟩:=zLG (ex:=ex) (a:=a) fb (p:=λ_=>false) (q:=(zJ ds,q.st)) ⟨h.b,λ_=>zKN y⟩;have n:=zIE (ds:=ds) (l:=l) (ex:=ex) (a:=a) fb (zJ ds,q.st);unfold zCE;generalize fb.foldl (zB5 ds l ex a) (zJ ds,q.st)=r at*;dsimp only;have u:∀{p:Prop},(zAt ds r.2.err q.forb r.1).2=0->(q.st.err=0->DV ds r.1 (λc=>fb.any λi=>zDo ds l ex a c i)->p)->p:=λm k=>k (n (zBW m)) ((w (zBW m)).congr λc _=>by simp)
 refine⟨v.same zBW,λm=>u m λs t=>(zFn m (h.f s) t).congr λc _=>by simp,λm x g j=>u m λs t=> ?_,λx=> ?_⟩
 ·replace j:mapD (zAp q.own a r.1) x=some g:=j;by_cases e:x=a
  ·subst e;rw[mapD_same]at j;injection j with j;subst j;exact t
  rw[zGN _ e]at j;exact h.o s x g j
 show(mapD (zAp q.own a r.1) x).isSome =_;by_cases e:x=a
 ·subst e;rw[mapD_same];simp
 rw[zGN _ e,h.d x];simp[e]
theorem zLI(c:zT ds=true){fb ex:List Nat}:∀(b done:List ByteArray){q:zHE},zQ1 ds l fb ex done q->zQ1 ds l fb ex (done++b) (b.foldl (zCE ds l fb ex) q)
 |[],done,q,h=>by simpa using h
 |a::r,done,q,h=>by
  have:=zLI c r (done++[a]) (zQ2 (a:=a) c h);simpa using this
theorem zLJ{fb ex:List Nat}:∀(b:List ByteArray)(q:zHE),(b.foldl (zCE ds l fb ex) q).st.err =0->q.st.err=0
 |[],_,h=>h
 |a::r,q,h=>by
  have:=zLJ r _ h;exact zIE _ _ (zBW this)
def zIF(ds:List zE)(l:List zF)(auths:List ByteArray)(fb ex:List Nat)(c:List Int)(i:Nat):Bool:=decide ((zq l i).target ∈auths)&&(evF ds c (zq l i).when_ &&fb.any λk=>zDo ds l ex (zq l i).target c k)
theorem zQ3{own:List (ByteArray × List zB)}(n:∀a g,mapD own a=some g->DV ds g (λc=>fb.any λi=>zDo ds l ex a c i))(o:∀a,(mapD own a).isSome =decide (a∈auths))
  {q:List zB × zAH}(h:zGA ds l p q):zGA ds l (λc=>p c||zIF ds l auths fb ex c i) (zCW ds l own q i):=by
 unfold zCW;have d:=o (zq l i).target
 cases e:mapD own (zq l i).target with
 |none=>
  rw[e]at d;exact⟨h.1,λb=>(h.2 b).congr λc _=>by unfold zIF;rw[<-d];simp⟩
 |some g=>
 rw[e]at d;dsimp only;obtain⟨f,j⟩:=zKO (i:=i) h.1;refine⟨f.same λb=>zCt (zBW b),λb=> ?_⟩;obtain⟨k,m⟩:=j (zCt (zBW b));exact(zFn b (h.2 k) (zH9 (zBW b) m (n _ _ e))).congr λc _=>by unfold zIF;rw[<-d];simp
theorem zLK{fb ex:List Nat}{own:List (ByteArray × List zB)}{auths:List ByteArray}(e:∀a g,mapD own a=some g->DV ds g (λc=>fb.any λi=>zDo ds l ex a c i))(f:∀a,(mapD own a).isSome =decide (a∈auths)):
  ∀(d:List Nat){p:List Int->Bool}{q:List zB × zAH},zGA ds l p q->zGA ds l (λc=>p c||d.any λi=>zIF ds l auths fb ex c i) (d.foldl (zCW ds l own) q)
 |[],p,q,h=>⟨h.1,λb=>(h.2 b).congr λc _=>by simp⟩
 |k::r,p,q,h=>by
  have:=zLK e f r (zQ3 (i:=k) e f h);exact⟨this.1,λb=>(this.2 b).congr λc _=>by simp[Bool.or_assoc]⟩
theorem zLL{own:List (ByteArray × List zB)}:∀(a:List Nat)(q:List zB × zAH),(a.foldl (zCW ds l own) q).2.err =0->q.2.err=0
 |[],_,h=>h
 |k::r,q,h=>by
  have:=zLL r _ h;revert this;unfold zCW;split
  ·exact id
  exact λh=>zLl (zCt (zBW h))
end
def exB(l:List zF)(s:zM)(sg now:Int)(c:List Int)(m:zF):Bool:=l.any λx=>zFF s sg now 2 x&&(decide (x.auth=m.auth/\x.target=m.id)&&evF s.dom c x.when_)
def fbB(l:List zF)(s:zM)(sg now:Int)(c:List Int)(m:zF):Bool:=zFF s sg now 1 m&&(evF s.dom c m.when_&& !exB l s sg now c m)
def zHF(l:List zF)(s:zM)(sg now:Int)(c:List Int):Bool:=l.any (fbB l s sg now c)
def blB(l:List zF)(s:zM)(sg now:Int)(c:List Int)(m:zF):Bool:=zFF s sg now 3 m&&(evF s.dom c m.when_&&l.any λx=>decide (x.auth=m.target)&&fbB l s sg now c x)
def zFo(l:List zF)(s:zM)(sg now:Int)(c:List Int):Bool:=l.any (blB l s sg now c)
theorem zM4(h:i<l.length):zq l i=l[i]:=by unfold zq;simp[h]
theorem zUM(l:List zF)(f:zF->Bool):((List.range l.length).any λi=>f (zq l i))=l.any f:=by
 rw[Bool.eq_iff_iff,List.any_eq_true,List.any_eq_true];constructor
 ·rintro⟨i,a,h⟩;rw[List.mem_range]at a;rw[zM4 a]at h;exact⟨l[i],List.getElem_mem a,h⟩
 rintro⟨x,hx,h⟩;obtain⟨i,a,rfl⟩:=List.getElem_of_mem hx;exact⟨i,List.mem_range.2 a,by rw[zM4 a];exact h⟩
theorem zKP(l:List zF)(s:zM)(sg a k:Int)(f:zF->Bool):((zBJ l s sg a k).any λi=>f (zq l i))=l.any λm=>zFF s sg a k m&&f m:=by
 unfold zBJ;rw[List.any_filter,<-zUM]
theorem zJl{l:List ByteArray}{a:ByteArray}:placeOf l a<l.length↔a∈l:=by
 unfold placeOf;rw[List.findIdx_lt_length];simp
theorem zUN(l:List zF)(s:zM)(sg a:Int)(c:List Int)(m:zF):((zBJ l s sg a 2).all λk=> !zID s.dom l m.auth m.id c k)= !exB l s sg a c m:=by
 unfold exB zID;rw[<-zKP l s sg a 2 (λx=>decide (x.auth=m.auth/\x.target=m.id)&&evF s.dom c x.when_),<-List.not_any_eq_all_not]
theorem zTY(l:List zF)(s:zM)(sg b:Int)(c:List Int)(a:ByteArray):((zBJ l s sg b 1).any λi=>zDo s.dom l (zBJ l s sg b 2) a c i)=l.any λm=>decide (m.auth=a)&&fbB l s sg b c m:=by
 have:(λi=>zDo s.dom l (zBJ l s sg b 2) a c i)=λi=>(λm=>decide (m.auth=a)&&(evF s.dom c m.when_&& !exB l s sg b c m)) (zq l i):=by
  funext i;unfold zDo;by_cases h:(zq l i).auth =a
  ·subst h;rw[zUN]
  simp[h]
 rw[this,zKP l s sg b 1 (λm=>decide (m.auth=a)&&(evF s.dom c m.when_&& !exB l s sg b c m))];congr 1;funext m;unfold fbB;cases zFF s sg b 1 m<;>cases decide (m.auth=a)<;>rfl
theorem zSy(l:List zF)(s:zM)(sg b:Int)(c:List Int):(s.auths.any λa=>(zBJ l s sg b 1).any λi=>zDo s.dom l (zBJ l s sg b 2) a c i)=zHF l s sg b c:=by
 simp only[zTY];rw[Bool.eq_iff_iff,List.any_eq_true,zHF,List.any_eq_true];constructor
 ·rintro⟨a,_,h⟩;rw[List.any_eq_true]at h;obtain⟨m,d,h⟩:=h;rw[Bool.and_eq_true]at h;exact⟨m,d,h.2⟩
 rintro⟨m,d,h⟩
 have e:m.auth∈s.auths:=by
  unfold fbB zFF at h;simp only[Bool.and_eq_true,decide_eq_true_eq]at h;exact zJl.1 h.1.1.1
 exact⟨m.auth,e,by rw[List.any_eq_true];exact⟨m,d,by simp[h]⟩⟩
theorem zRq(l:List zF)(s:zM)(sg a:Int)(c:List Int):((zBJ l s sg a 3).any λi=>zIF s.dom l s.auths (zBJ l s sg a 1) (zBJ l s sg a 2) c i)=zFo l s sg a c:=by
 have:(λi=>zIF s.dom l s.auths (zBJ l s sg a 1) (zBJ l s sg a 2) c i)=λi=>(λm=>decide (m.target∈s.auths)&&(evF s.dom c m.when_&&l.any λx=>decide (x.auth=m.target)&&fbB l s sg a c x)) (zq l i):=by
  funext i;unfold zIF;rw[zTY]
 rw[this,zKP l s sg a 3 (λm=>decide (m.target∈s.auths)&&(evF s.dom c m.when_&&l.any λx=>decide (x.auth=m.target)&&fbB l s sg a c x))];unfold zFo;congr 1;funext m;unfold blB;by_cases h:m.target∈s.auths
 ·simp[h]
 have:(l.any λx=>decide (x.auth=m.target)&&fbB l s sg a c x)=false:=by
  rw[List.any_eq_false];intro x _ d;rw[Bool.and_eq_true,decide_eq_true_eq]at d;have b:=d.2;unfold fbB zFF at b;simp only[Bool.and_eq_true,decide_eq_true_eq]at b;exact h (d.1▸zJl.1 b.1.1.1)
 rw[this];simp
theorem zM5{sg e:Int}{st:zAH}(k:zT s.dom=true)(h:BInv s.dom l st)(he:(zBV l s sg e st).2.2.err =0):
  st.err=0/\DV s.dom (zBV l s sg e st).1 (zHF l s sg e)/\DV s.dom (zBV l s sg e st).2.1 (zFo l s sg e)/\BInv s.dom l (zBV l s sg e st).2.2:=by
 have i:=zLI (l:=l) k (fb:=zBJ l s sg e 1) (ex:=zBJ l s sg e 2) s.auths [] (q:=⟨[],zJ s.dom,st⟩) ⟨h,λ_=>(zKN k).congr λc _=>by simp,λ_ a g u=>by simp[mapD]at u,λa=>by simp[mapD]⟩;have m:=zLJ (ds:=s.dom) (l:=l) (fb:=zBJ l s sg e 1) (ex:=zBJ l s sg e 2) s.auths ⟨[],zJ s.dom,st⟩;unfold zBV at he⊢;dsimp only at he⊢;rw[List.nil_append]at i;generalize s.auths.foldl (zCE s.dom l (zBJ l s sg e 1) (zBJ l s sg e 2)) ⟨[],zJ s.dom,st⟩=q at*;have j:=zLL _ _ he;obtain⟨n,t⟩:=zLK (i.o j) i.d (zBJ l s sg e 3) (p:=λ_=>false) (q:=(zJ s.dom,q.st)) ⟨i.b,λ_=>zKN k⟩;exact⟨m j,(i.f j).congr λc _=>zSy l s sg e c,(t he).congr λc _=>by rw[Bool.false_or,zRq],n⟩
section
variable {l a b:List zF} {s:zM} {sg now:Int} {c:List Int}
theorem zFG{ds:List zE}:∀{l:List zF},zC9 ds l=0↔∀m∈l,zBA ds m=0
 |[]=>by simp[zC9]
 |m::r=>by
  unfold zC9;by_cases h:zBA ds m=0
  ·rw[if_pos h,zFG];simp[h]
  rw[if_neg h];simp[h]
theorem zLm(h:zBA ds m=0):zT ds=true/\zGd m=true/\zFB m=true/\zBY ds m.when_=0:=by
 unfold zBA at h;split at h
 ·exact absurd h (by decide)
 rename_i h1;split at h
 ·exact absurd h (by decide)
 rename_i h2;simp only[not_or,Bool.not_eq_false]at h1 h2;exact⟨h1.1,h1.2,h2,h⟩
structure MOk (l:List zF) (s:zM):Prop where
 p:zCR s=true
 n:l.length<=200
 v:∀m∈l,zBA s.dom m=0
 d:(l.map zF.id).Nodup
theorem zBt:zDc l s=0↔MOk l s:=by
 unfold zDc;constructor
 ·intro h;split at h
  ·exact absurd h (by decide)
  rename_i h1;split at h
  ·exact absurd h (by decide)
  rename_i h2;split at h
  ·rename_i h3;exact absurd h h3
  rename_i h3;split at h
  ·rename_i h4;exact⟨by simpa using h1,by omega,zFG.1 (Decidable.not_not.1 h3),h4⟩
  exact absurd h (by decide)
 rintro⟨h1,h2,h3,h4⟩;rw[if_neg (by simp[h1]),if_neg (by omega),if_neg (by rw[zFG.2 h3];simp),if_pos h4]
theorem zLM:(zP l s).2=zDc l s:=by
 unfold zP;split
 ·rfl
 rename_i h;simp only[ne_eq,Decidable.not_not]at h;exact h.symm
structure zUO (s:zM):Prop where
 n1:1<=s.auths.length
 n6:s.auths.length<=6
 z:s.zones.length=s.auths.length
 k:s.cases.length=s.auths.length
 d:zT s.dom=true
 a:∀i,i<s.auths.length->zCV s.auths s.zones i=true/\fits s.dom (zDb s i)=true
 t:0<=s.signed/\s.signed<=s.now/\s.now<=144001439
theorem zD6:zCR s=true↔zUO s:=by
 unfold zCR;simp only[Bool.and_eq_true,decide_eq_true_eq,List.all_eq_true,List.mem_range];constructor
 ·rintro⟨⟨⟨⟨⟨⟨⟨⟨h1,h2⟩,h3⟩,h4⟩,h5⟩,h6⟩,h7⟩,h8⟩,h9⟩;exact⟨h1,h2,h3,h4,h5,h6,h7,h8,h9⟩
 rintro⟨h1,h2,h3,h4,h5,h6,h7,h8,h9⟩;exact⟨⟨⟨⟨⟨⟨⟨⟨h1,h2⟩,h3⟩,h4⟩,h5⟩,h6⟩,h7⟩,h8⟩,h9⟩
theorem zJF{zs:List zp}(h:zCV auths zs i=true):zAy (auths.getD i ⟨#[]⟩)=true/\zBn (zA5 zs i)=true/\auths.getD i ⟨#[]⟩∉auths.take i:=by
 unfold zCV at h;simpa only[Bool.and_eq_true,Bool.not_eq_true',decide_eq_false_iff_not,and_assoc]using h
def zIG(a b:List zF)(s:zM)(sg now:Int)(c:List Int):Bool:=(zHF a s sg now c !=zHF b s sg now c)||(zFo a s sg now c !=zFo b s sg now c)
structure Found (a b:List zF) (s:zM) (ps:List (Int × Int)) (x:zHQ):Prop where
 is:∃pre post,ps=pre++(x.signed,x.now)::post/\∀p∈pre,∀c,Fit s.dom c->zIG a b s p.1 p.2 c=false
 fit:Fit s.dom x.cas
 part:zIG a b s x.signed x.now x.cas=true
 least:∀c,Fit s.dom c->zIG a b s x.signed x.now c=true->¬zPd c x.cas
 va:x.a=(zP a (zAv s x.signed x.now x.cas)).1
 vb:x.b=(zP b (zAv s x.signed x.now x.cas)).1
theorem zJm(A:zT s.dom=true):∀(g:List (Int × Int))(x y:zAH),BInv s.dom a x->BInv s.dom b y->
  ((zBk a b s g x y).2.1=true->(zBk a b s g x y).2.2=0/\Found a b s g (zBk a b s g x y).1)/\
  ((zBk a b s g x y).2.1=false->(zBk a b s g x y).1=zCa/\((zBk a b s g x y).2.2=2\/(zBk a b s g x y).2.2=0/\∀p∈g,∀c,Fit s.dom c->zIG a b s p.1 p.2 c=false))
 |[],x,y,_,_=>by
  unfold zBk;exact⟨λh=>absurd h (by simp),λ_=>⟨rfl,.inr ⟨rfl,λp o=>by simp at o⟩⟩⟩
 |p::r,x,y,hx,hy=>by
  unfold zBk;dsimp only;by_cases z:(zBV b s p.1 p.2 y).2.2.err =0
  ·rw[if_neg (by simp[z])];by_cases u:(zGf s.dom (zBV a s p.1 p.2 x).2.2.err (zBV a s p.1 p.2 x).1 (zBV b s p.1 p.2 y).1 (zBV a s p.1 p.2 x).2.1 (zBV b s p.1 p.2 y).2.1).2=0
   ·rw[if_neg (by simp[u])];obtain⟨-,P,C,F⟩:=zM5 A hy z;have J:=zNy u;obtain⟨-,O,B,D⟩:=zM5 A hx J;have w:=zTp u O P B C;have E:BInv s.dom a ⟨(zGf s.dom (zBV a s p.1 p.2 x).2.2.err (zBV a s p.1 p.2 x).1 (zBV b s p.1 p.2 y).1 (zBV a s p.1 p.2 x).2.1 (zBV b s p.1 p.2 y).2.1).2,(zBV a s p.1 p.2 x).2.2.built⟩:=D.same zNy;have ih:=zJm A r _ _ E F;generalize zGf s.dom (zBV a s p.1 p.2 x).2.2.err (zBV a s p.1 p.2 x).1 (zBV b s p.1 p.2 y).1 (zBV a s p.1 p.2 x).2.1 (zBV b s p.1 p.2 y).2.1=d at*
    cases I:zDS s.dom d.1 with
    |none=>
     dsimp only
     have n:∀c,Fit s.dom c->zIG a b s p.1 p.2 c=false:=λc N=>by
      have:=(zO5 w.v I).1 c;rw[w.s c N]at this;exact this
     refine⟨λh=> ?_,λh=> ?_⟩
     ·obtain⟨i,⟨G,t,e,o⟩,j,k,K,L,M⟩:=ih.1 h
      exact⟨i,⟨p::G,t,congrArg (List.cons p) e,λq f=>by
       rcases List.mem_cons.1 f with rfl|f
       ·exact n
       exact o q f⟩,j,k,K,L,M⟩
     obtain⟨i,j⟩:=ih.2 h;refine⟨i,j.imp id λk=>⟨k.1,λq f=> ?_⟩⟩;rcases List.mem_cons.1 f with rfl|f
     ·exact n
     exact k.2 q f
    |some c=>
    dsimp only;obtain⟨-,i,j,k⟩:=zO4 I;refine⟨λ_=>⟨rfl,⟨[],r,rfl,λq f=>by simp at f⟩,i,?_,λH m o=>k H m ?_,rfl,rfl⟩,λh=>absurd h (by simp)⟩
    ·rw[w.s c i]at j;exact j
    rw[w.s H m];exact o
   rw[if_pos u];exact⟨λh=>absurd h (by simp),λ_=>⟨rfl,.inl rfl⟩⟩
  rw[if_pos z];exact⟨λh=>absurd h (by simp),λ_=>⟨rfl,.inl rfl⟩⟩
theorem zMx: 
  ((zAO a b s).2.1=true->(zAO a b s).2.2=0/\MOk a s/\MOk b s/\Found a b s (zx (zDL a b s)) (zAO a b s).1)/\
  ((zAO a b s).2.1=false->(zAO a b s).1=zCa/\((zAO a b s).2.2≠0\/(zAO a b s).2.2=0/\MOk a s/\MOk b s/\∀p∈zx (zDL a b s),∀c,Fit s.dom c->zIG a b s p.1 p.2 c=false)):=by
 unfold zAO;split
 ·exact⟨λh=>absurd h (by simp),λ_=>⟨rfl,.inl (by simp)⟩⟩
 rename_i hp;split
 ·rename_i h;exact⟨λh=>absurd h (by simp),λ_=>⟨rfl,.inl h⟩⟩
 rename_i ha;split
 ·rename_i h;exact⟨λh=>absurd h (by simp),λ_=>⟨rfl,.inl h⟩⟩
 rename_i hb;split
 ·exact⟨λh=>absurd h (by simp),λ_=>⟨rfl,.inl (by simp)⟩⟩
 have j:=zBt.1 (zLM.symm.trans (Decidable.not_not.1 ha));have m:=zBt.1 (zLM.symm.trans (Decidable.not_not.1 hb));have n:=(zD6.1 j.p).d;have k:∀l,BInv s.dom l ⟨0,[]⟩:=λl _ i g h=>by simp[mapD]at h
 have f:=zJm n (a:=a) (b:=b) (zx (zDL a b s)) ⟨0,[]⟩ ⟨0,[]⟩ (k a) (k b);exact⟨λh=>⟨(f.1 h).1,j,m,(f.1 h).2⟩,λh=>⟨(f.2 h).1,(f.2 h).2.imp (λe=>by rw[e];decide) λe=>⟨e.1,j,m,e.2⟩⟩⟩
end
theorem zJn(X:Nat)(x:zE)(n:Int)(w:World)(h:Blk w X 106 #[.string x.name,.int .i64 x.kind,.int .i64 x.lo,.int .i64 x.hi]):
  Calls prog 225 #[.int .i64 n,.pointer (some ⟨X,0,none⟩)] w λe w'=>e= .returned (.bool (decide (n<x.lo)||decide (x.hi<n)))/\w'=w:=by
 have c2:=h.at2;have c3:=h.at3;have d:=h.lt;generalize x.lo=lo at*;generalize x.hi=c at*;clear h;go_enter func225,ntmps225
 by_cases a:n<lo
 ·go_wp2;exact bodyPost_ret (v:= .bool true) (by simp[results,results225,go_sem]) rfl ⟨by simp[a],rfl⟩
 by_cases b:c<n
 ·go_wp2;exact bodyPost_ret (v:= .bool true) (by simp[results,results225,go_sem]) rfl ⟨by simp,rfl⟩
 go_wp2;exact bodyPost_ret (v:= .bool false) (by simp[results,results225,go_sem]) rfl ⟨by simp[a,b],rfl⟩
open Go.Sort in
theorem zJG(d:Array Int)(os:Array Obj):zA (λb=>b≠g) w (grow (putRow (Value.int .i64) (Sort.ahead w n) g 0 d) os):=by
 have h:=grownBy_sortedI (w:=w) (g:=g) (n:=n) (os:=os) d;exact(zA.refl _ _).grown h (λk a _ c=>c (Option.some.inj a).symm)
open Go.Sort in
theorem zJH(h:w.ownsRow base e 1 (.slice (some ⟨g,0,none⟩) n cap) n (zs.map (.int .i64))):
  base<=g/\g<w.heap.size/\n<=cap/\cap<=maxLen/\zs.length=n/\Holds (Value.int .i64) w g 0 zs.toArray:=by
 obtain⟨k,a,e,b,c,d,f,i,j⟩:=Lib.holds_of_ownsRow h (by simp);injection e with e1 e2 e3;injection e1 with e1;injection e1 with e1;subst e1 e3;exact⟨b,c,d,f,i,j⟩
theorem zKQ(h:w.ownsRow base 3 1 (.slice (some ⟨g,0,none⟩) n cap) n (zs.map (.int .i64)))(f:n<4611686018427387904):
  Calls prog 29 #[.slice (some ⟨g,0,none⟩) n cap] w λe w'=>e= .returned (.tuple #[])/\w'.ownsRow base 3 1 (.slice (some ⟨g,0,none⟩) n cap) n ((zs.mergeSort λx y=>decide (x<=y)).map (.int .i64))/\zA (λb=>b≠g) w w':=by
 obtain⟨i,a,j,k,c,d⟩:=zJH h;subst c;refine(Tryz.slices_Sort_int g 0 cap zs w d a f).mono ?_;rintro e w' ⟨rfl,q,m,rfl⟩;refine⟨rfl,?_,zJG _ _⟩;rcases h.2 with⟨e0,_⟩|⟨g',cap',cur,e0,hb,hg,hn',hm,hs,ht⟩
 ·cases e0
 injection e0 with e1 _ e3;injection e1 with e1;injection e1 with e1;subst e1 e3;exact ownsRow_sortedI (ss:=zs) (by simp) hb hg hn' hm hs
theorem zPW{base g n cap q:Nat}{zs ys:List Int}{m:Nat}(h:w.ownsRow base e 1 (.slice (some ⟨g,0,none⟩) n cap) n (zs.map (.int .i64)))(a:ys.length+m=n):
  (Sort.putRow (Value.int .i64) (Sort.ahead w q) g 0 (ys++List.replicate m 0).toArray).ownsRow base e 1 (.slice (some ⟨g,0,none⟩) ys.length cap) ys.length (ys.map (.int .i64))/\zA (λb=>b≠g) w (Sort.putRow (Value.int .i64) (Sort.ahead w q) g 0 (ys++List.replicate m 0).toArray):=by
 refine⟨?_,?_⟩
 ·have:=Lib.ownsRow_putRow (q:=q) (k:=ys.length) (ys:=ys++List.replicate m 0) h (by simp;omega) (by omega);simpa using this
 have:=zJG (w:=w) (g:=g) (n:=q) (ys++List.replicate m 0).toArray #[];rwa[Sort.grow_empty]at this
theorem zQ4{base g n cap X:Nat}{x:zE}(h:w.ownsRow base 3 1 (.slice (some ⟨g,0,none⟩) n cap) n (zs.map (.int .i64)))(a:Blk w X 106 #[.string x.name,.int .i64 x.kind,.int .i64 x.lo,.int .i64 x.hi])(c:X≠g):
  Calls prog 224 #[.slice (some ⟨g,0,none⟩) n cap,.func (.func 225) #[] #[.pointer (some ⟨X,0,none⟩)]] w λe w'=>
   ∃ys,ys=zs.filter (λn=> !(decide (n<x.lo)||decide (x.hi<n)))/\e= .returned (.slice (some ⟨g,0,none⟩) ys.length cap)/\w'.ownsRow base 3 1 (.slice (some ⟨g,0,none⟩) ys.length cap) ys.length (ys.map (.int .i64))/\zA (λb=>b≠g) w w':=by
 obtain⟨A,B,f,i,j,k⟩:=zJH h;have u:cap<=9223372036854775807:=by simpa[maxLen]using i
 subst j
 have s:=Tryz.slices_DeleteFunc (Value.int .i64) (λ_=>rfl) (λn=>decide (n<x.lo)||decide (x.hi<n)) 225 #[.pointer (some ⟨X,0,none⟩)] Tryz.egStarts2 0 Tryz.zeroInt g 0 cap zs.toArray w
  (λW n o=>(zJn X x n W (a.below o a.lt)).mono λe w' h=>⟨h.1,0,h.2⟩)
  (λm v d n _=>(zJn X x n _ (a.keep (zJG d v) c)).mono λe w' h=>⟨h.1,0,h.2⟩) k (by simp;omega) (by simpa using f)
 refine s.mono ?_;rintro e w' ⟨rfl,q,rfl⟩;have t:(zs.filter (λn=> !(decide (n<x.lo)||decide (x.hi<n)))).length <=zs.length:=List.length_filter_le _ _;obtain⟨y,z⟩:=zPW (q:=q) (ys:=zs.filter (λn=> !(decide (n<x.lo)||decide (x.hi<n)))) (m:=zs.length-(zs.filter (λn=> !(decide (n<x.lo)||decide (x.hi<n)))).length) h (by omega);exact⟨_,rfl,rfl,y,z⟩
theorem zHR(h:w.ownsRow base 3 1 (.slice (some ⟨g,0,none⟩) n cap) n (zs.map (.int .i64))):
  Calls prog 30 #[.slice (some ⟨g,0,none⟩) n cap] w λe w'=>
   ∃ys,ys=Lib.compact zs/\e= .returned (.slice (some ⟨g,0,none⟩) ys.length cap)/\w'.ownsRow base 3 1 (.slice (some ⟨g,0,none⟩) ys.length cap) ys.length (ys.map (.int .i64))/\zA (λb=>b≠g) w w':=by
 obtain⟨s,t,a,c,d,f⟩:=zJH h;have j:cap<=9223372036854775807:=by simpa[maxLen]using c
 subst d;refine(Tryz.slices_Compact_int g 0 cap zs w f (by omega) a).mono ?_;rintro e w' ⟨rfl,q,rfl⟩;have i:=Lib.compact_length_le zs;obtain⟨k,o⟩:=zPW (q:=q) (ys:=Lib.compact zs) (m:=zs.length-(Lib.compact zs).length) h (by omega);exact⟨_,rfl,rfl,k,o⟩
def zGW(w:World)(fc:Array Value)(x:zE):World:=
 ((((w.alloc (.cells fc 52)).alloc (.cells #[.string x.name,.int .i64 x.kind,.int .i64 x.lo,.int .i64 x.hi] 106)).alloc (.cells #[.int .i64 x.lo] 3)).alloc (.cells #[.slice (some ⟨w.heap.size+1+1,0,none⟩) 1 1] 33)).alloc
  (.cells #[.func (.func 223) #[] #[.pointer (some ⟨w.heap.size+1,0,none⟩),.pointer (some ⟨w.heap.size+1+1+1,0,none⟩),.pointer (some ⟨w.heap.size+1+1+1+1,0,none⟩)]] 278)
def zGX(w:World):zD:=λb=>b<w.heap.size\/b=w.heap.size+1\/b=w.heap.size+1+1+1+1
theorem zNz{fc:Array Value}{x:zE}{Z:zD}(e:∀b,Z b->b<w.heap.size):
  StC (zGW w fc x) (w.heap.size+1) (w.heap.size+1+1+1) (w.heap.size+1+1+1+1) (w.heap.size+1+1) (zGX w) x Z/\StO (zGW w fc x) (w.heap.size+1+1+1) (w.heap.size+1+1) (zGX w) [x.lo]/\Bw w (zGW w fc x):=by
 have a:Bw w (zGW w fc x):=(((((Below.refl _ _).alloc (Nat.le_refl _) _).alloc (by simp) _).alloc (by simp;omega) _).alloc (by simp;omega) _).alloc (by simp;omega) _;have f:(zGW w fc x).heap.size =w.heap.size+1+1+1+1+1:=by simp[zGW]
 refine⟨⟨?_,?_,λb a=> ?_,?_,by omega,λb a=> ?_⟩,⟨.slice (some ⟨w.heap.size+1+1,0,none⟩) 1 1,?_,?_,λk d=> ?_⟩,a⟩
 ·have:=(((Blk.new (w.alloc (.cells fc 52)) 106 #[.string x.name,.int .i64 x.kind,.int .i64 x.lo,.int .i64 x.hi]).alloc (.cells #[.int .i64 x.lo] 3)).alloc (.cells #[.slice (some ⟨w.heap.size+1+1,0,none⟩) 1 1] 33)).alloc
   (.cells #[.func (.func 223) #[] #[.pointer (some ⟨w.heap.size+1,0,none⟩),.pointer (some ⟨w.heap.size+1+1+1,0,none⟩),.pointer (some ⟨w.heap.size+1+1+1+1,0,none⟩)]] 278)
  simp only[World.size_alloc]at this;exact this
 ·exact zG6 _ _ _ (by simp)
 ·rcases a with h|rfl|rfl
  ·exact Or.inl (e b h)
  ·exact Or.inr (Or.inl rfl)
  exact Or.inr (Or.inr rfl)
 ·unfold zGX;omega
 ·unfold zGX at a;omega
 ·exact(zG6 _ _ _ (by simp)).alloc _
 ·have h:=Blk.new ((w.alloc (.cells fc 52)).alloc (.cells #[.string x.name,.int .i64 x.kind,.int .i64 x.lo,.int .i64 x.hi] 106)) 3 #[.int .i64 x.lo];simp only[World.size_alloc]at h
  have c:=(h.alloc (.cells #[.slice (some ⟨w.heap.size+1+1,0,none⟩) 1 1] 33)).alloc
   (.cells #[.func (.func 223) #[] #[.pointer (some ⟨w.heap.size+1,0,none⟩),.pointer (some ⟨w.heap.size+1+1+1,0,none⟩),.pointer (some ⟨w.heap.size+1+1+1+1,0,none⟩)]] 278)
  exact⟨rfl,Or.inr ⟨w.heap.size+1+1,1,_,rfl,Nat.le_refl _,c,Nat.le_refl _,by decide,rfl,rfl⟩⟩
 have:w.heap.size+1+1=k:=Option.some.inj d;unfold zGX;omega
theorem zQ5(Z:zD)(f:Fm)(x:zE)(cs:List Value)(w:World)(hf:FmR Z w f cs)(hz:∀b,Z b->b<w.heap.size)(hs:zH f<=1000000)(U:∀n∈zAX x.name f,0<=n/\n<=1000000)(D:x.fit)(hx:x.lo<=x.hi):
  Calls prog 177 #[.agg cs.toArray,.agg #[.string x.name,.int .i64 x.kind,.int .i64 x.lo,.int .i64 x.hi]] w λe w'=>
   ∃v,e= .returned v/\w'.ownsRow w.heap.size 3 1 v (zR f x).length ((zR f x).map (.int .i64))/\Bw w w':=by
 have af:=Tryz.egStarts1;have ag:=Tryz.egStarts2;obtain⟨A,cap,rfl⟩:=FmR.form hf;have HF:=hid hf;have HX:=hid (And.intro D (And.intro hx (And.intro hs U)));clear hf D hx hs U;go_enter func177,ntmps177
 have Q:=hid (zNz (w:=w) (fc:=#[.int .i64 f.op,.string f.name,.int .i64 f.cmp,.int .i64 f.num,.slice A f.kids.length cap]) (x:=x) hz);go_wp2_with fail
 refine(zOn _ _ _ _ (zGX w) x Z (zH f) f (Nat.le_refl _) _ [x.lo] _ (FmR.keep (.of_below (Q.2.2)) _ _ HF) (by have:=HX.2.2.1;simp;omega) HX.2.2.2 Q.1 Q.2.1).mono ?_;rintro e w1 ⟨rfl,ac,J⟩
 have ae:([x.lo]++prs (zAX x.name f)).length <=4000000:=by
  have h1:=zMY x.name f;have:=HX.2.2.1;rw[List.length_append];simp;omega
 obtain⟨vo,B,a,E⟩:=ac;have u:([x.lo]++prs (zAX x.name f)).length =(prs (zAX x.name f)).length +1:=by simp
 have c:=a;rw[u]at c;obtain⟨g,c1,hv⟩:=zBc c;rw[<-u]at hv;subst hv;have hg:=E g rfl;have R:=Q.1.keep J;have T:=z8 ((zFb Q.2.2).trans (J.mono λb _ hb=>Or.inl hb)) (Nat.le_refl _);have d:=hid (zQU (f:=f) HX.2.1 (λn=>decide (n<x.lo)||decide (x.hi<n)) (λn=>by simp));have HQ:=hid (show[x.lo]++prs (zAX x.name f)=x.lo::(zAX x.name f).flatMap λn=>[n,n+1] from rfl);rw[<-HQ.out]at d;clear c u;generalize [x.lo]++prs (zAX x.name f)=zs at*;have F:=hid (And.intro B (And.intro a (And.intro R.x (And.intro hg T))));have M:=B.cell;have N:=B.lt;have V:=zKQ a (by omega);have P:=hid V;clear B a R hg T V HQ E J;go_wp2_with fail
 refine P.mono ?_;rintro e w2 ⟨rfl,o,z⟩;have G:w.heap.size+1+1+1≠g:=λe=>F.2.2.2.1.2 e.symm
 have H:w.heap.size+1≠g:=λe=>F.2.2.2.1.1 (Or.inr (Or.inl e.symm))
 have C:=F.1.keep z G;have Y:=F.2.2.1.keep z H;have I:w.heap.size<=g:=Nat.le_of_not_lt λh=>F.2.2.2.1.1 (Or.inl h)
 have i:Bw w w2:=zAG F.2.2.2.2 z I F.2.2.2.2.size;clear M N P;have M:=C.cell;have N:=C.lt;have HD:=hid (zQ4 (X:=w.heap.size+1) o Y H);have H2:=hid (And.intro C i);have HG:=hid (And.intro G I);clear G H C Y I i o z;go_wp2_with fail
 refine HD.mono ?_;rintro e w3 ⟨ys,aa,rfl,q,K⟩;have m:=H2.1.keep K HG.1;have j:Bw w w3:=zAG H2.2 K HG.2 H2.2.size;clear M N HD;have M:=m.cell;have N:=m.lt;have o3:=m.free
 have s:=zXL q ((zA.refl (λb=>b≠w.heap.size+1+1+1) _).setCell (p:=⟨w.heap.size+1+1+1,0,none⟩) (λ_ h=>h rfl) (.slice (some ⟨g,0,none⟩) ys.length c1)) (λk hk=>by
  have:g=k:=Option.some.inj hk;have:=HG.1
  omega)
 have HC:=hid (zHR s);have O:=hid (j.setCell (p:=⟨w.heap.size+1+1+1,0,none⟩) (by show w.heap.size<=w.heap.size+1+1+1;omega) (.slice (some ⟨g,0,none⟩) ys.length c1));have HO:=hid (m.set_ (.slice (some ⟨g,0,none⟩) ys.length c1));rw[<-aa]at d;clear m j q K aa s;go_upto_region 7 with fail
 generalize (w3.setCell ⟨w.heap.size+1+1+1,0,none⟩ (.slice (some ⟨g,0,none⟩) ys.length c1))=w4 at*;clear M N o3;have M:=HO.cell;have N:=HO.lt;go_wp2_with fail
 refine HC.mono ?_;rintro e w5 ⟨y,ab,rfl,t,W⟩;have L:y=zR f x:=ab.trans d.out;have HP:=hid (show w5.ownsRow w.heap.size 3 1 (.slice (some ⟨g,0,none⟩) y.length c1) y.length (y.map (.int .i64))/\Bw w w5 from⟨zIQ t (by omega),zAG O W HG.2 O.size⟩);rw[L]at HP;clear t W ab M N HC HO;have ad:=hid L;clear L;go_wp2;refine bodyPost_ret (v:= .slice (some ⟨g,0,none⟩) y.length c1) (by simp[results,results177,go_sem]) rfl ⟨_,rfl,?_,HP.2⟩;rw[ad.out];exact HP.1
theorem zIH{x y:Int}:∀{l:List Int},y∈zDA l x↔y=x\/y∈l
 |[]=>by simp[zDA]
 |z::r=>by
  unfold zDA;split
  ·simp
  split
  ·rename_i h;subst h;simp
  rw[List.mem_cons,zIH,List.mem_cons];constructor
  ·rintro(h|h|h)<;>simp[h]
  rintro(h|h|h)<;>simp[h]
theorem zII{x:Int}:∀{l:List Int},l.Pairwise (· < ·)->(zDA l x).Pairwise (· < ·)
 |[],_=>by simp[zDA]
 |z::r,h=>by
  rw[List.pairwise_cons]at h;unfold zDA;split
  ·rename_i hx;rw[List.pairwise_cons,List.pairwise_cons]
   exact⟨λy a=>by
    rcases List.mem_cons.1 a with rfl|a
    ·exact hx
    exact Int.lt_trans hx (h.1 y a),h⟩
  split
  ·rw[List.pairwise_cons];exact h
  rename_i h1 h2;rw[List.pairwise_cons];refine⟨λy a=> ?_,zII h.2⟩;rcases zIH.1 a with rfl|a
  ·omega
  exact h.1 y a
theorem zHS{y:Int}:∀{l m:List Int},y∈l.foldl zDA m↔y∈l\/y∈m
 |[],m=>by simp
 |x::r,m=>by
  rw[List.foldl_cons,zHS,zIH,List.mem_cons];constructor
  ·rintro(h|h|h)<;>simp[h]
  rintro((h|h)|h)<;>simp[h]
theorem zJo:∀{l m:List Int},m.Pairwise (· < ·)->(l.foldl zDA m).Pairwise (· < ·)
 |[],m,h=>h
 |x::r,m,h=>zJo (l:=r) (zII h)
theorem zLN{x y:Int}:∀{l:List Int},l.Pairwise (· < ·)->((x,y)∈zx l↔x∈l/\y∈l/\x<=y)
 |[],_=>by simp[zx]
 |z::r,h=>by
  rw[List.pairwise_cons]at h;unfold zx;rw[List.mem_append,zLN h.2,List.mem_map];constructor
  ·rintro(⟨q,a,e⟩|⟨h1,h2,h3⟩)
   ·injection e with e1 e2;subst e1 e2
    exact⟨by simp,a,by
     rcases List.mem_cons.1 a with rfl|a
     ·exact Int.le_refl _
     exact Int.le_of_lt (h.1 _ a)⟩
   exact⟨by simp[h1],by simp[h2],h3⟩
  rintro⟨h1,h2,h3⟩;rcases List.mem_cons.1 h1 with rfl|b
  ·exact .inl ⟨y,h2,rfl⟩
  rcases List.mem_cons.1 h2 with c|c
  ·exact absurd h3 (by have:=h.1 x b;omega)
  exact .inr ⟨b,c,h3⟩
section
variable {l a b:List zF} {s:zM} {sg now:Int} {c:List Int}
theorem zQ6{z:zp}{y d:Int}{m:List Int}:y∈zBI z m d↔y∈m\/((zA4 z d).2=0/\y=(zA4 z d).1):=by
 unfold zBI;split
 ·rename_i h;rw[zIH];simp[h,or_comm]
 rename_i h;simp[h]
theorem zJp{z:zp}{y:Int}:∀{ds m:List Int},y∈ds.foldl (zBI z) m↔y∈m\/∃d∈ds,(zA4 z d).2=0/\y=(zA4 z d).1
 |[],m=>by simp
 |d::r,m=>by
  rw[List.foldl_cons,zJp,zQ6];constructor
  ·rintro((h|h)|⟨d',a,h⟩)
   ·exact .inl h
   ·exact .inr ⟨d,by simp,h⟩
   exact .inr ⟨d',by simp[a],h⟩
  rintro(h|⟨d',a,h⟩)
  ·exact .inl (.inl h)
  rcases List.mem_cons.1 a with rfl|a
  ·exact .inl (.inr h)
  exact .inr ⟨d',a,h⟩
theorem zGB{auths:List ByteArray}{zs:List zp}:∀{l:List zF}{m:List Int},(∀x∈l,placeOf auths x.auth<auths.length->zCD x=true)->
  (zBS auths zs l m).2=0/\∀y,y∈(zBS auths zs l m).1↔y∈m\/∃x∈l,placeOf auths x.auth<auths.length/\∃d∈zDa x,(zA4 (zA5 zs (placeOf auths x.auth)) d).2=0/\y=(zA4 (zA5 zs (placeOf auths x.auth)) d).1
 |[],m,_=>by simp[zBS]
 |x::r,m,h=>by
  unfold zBS;by_cases b:placeOf auths x.auth<auths.length
  ·rw[if_pos b,if_neg (by rw[h x (by simp) b];simp)];obtain⟨c,e⟩:=zGB (zs:=zs) (l:=r) (m:=(zDa x).foldl (zBI (zA5 zs (placeOf auths x.auth))) m) (λy f=>h y (by simp[f]));refine⟨c,λy=> ?_⟩;rw[e,zJp];constructor
   ·rintro((h3|h3)|⟨q,a,h3⟩)
    ·exact .inl h3
    ·exact .inr ⟨x,by simp,b,h3⟩
    exact .inr ⟨q,by simp[a],h3⟩
   rintro(h3|⟨q,a,h3⟩)
   ·exact .inl (.inl h3)
   rcases List.mem_cons.1 a with rfl|a
   ·exact .inl (.inr h3.2)
   exact .inr ⟨q,a,h3⟩
  rw[if_neg b];obtain⟨c,e⟩:=zGB (zs:=zs) (l:=r) (m:=m) (λy f=>h y (by simp[f]));refine⟨c,λy=> ?_⟩;rw[e];constructor
  ·rintro(h3|⟨q,a,h3⟩)
   ·exact .inl h3
   exact .inr ⟨q,by simp[a],h3⟩
  rintro(h3|⟨q,a,h3⟩)
  ·exact .inl h3
  rcases List.mem_cons.1 a with rfl|a
  ·exact absurd h3.1 b
  exact .inr ⟨q,a,h3⟩
theorem zSz(h:zFB m=true):zCD m=true:=by
 unfold zFB at h;simp only[Bool.and_eq_true,Bool.or_eq_true,decide_eq_true_eq]at h;obtain⟨⟨⟨⟨d,e⟩,a⟩,f⟩,b⟩:=h;unfold zCD zEM;simp only[Bool.and_eq_true,Bool.or_eq_true,decide_eq_true_eq];refine⟨⟨⟨⟨⟨d,e⟩,f⟩,?_⟩,?_⟩,?_⟩
 ·split at b<;>omega
 ·by_cases c:m.kind=1
  ·exact .inr c
  rw[if_neg c]at b;exact .inl b
 rcases a with a|a
 ·exact .inl a
 exact .inr ⟨⟨by omega,a.2⟩,a.1⟩
theorem zHT(h:MOk l s):(zBd l s.auths s.zones).2=0/\∀y,y∈(zBd l s.auths s.zones).1↔y=0\/∃x∈l,placeOf s.auths x.auth<s.auths.length/\∃d∈zDa x,(zA4 (zA5 s.zones (placeOf s.auths x.auth)) d).2=0/\y=(zA4 (zA5 s.zones (placeOf s.auths x.auth)) d).1:=by
 have b:=zD6.1 h.p;unfold zBd
 rw[if_neg (by have:=h.n;have:=b.n6;omega),if_neg (by rw[b.z];simp),if_neg (by
  rw[Bool.not_eq_false,List.all_eq_true];intro i f
  exact(b.a i (List.mem_range.1 f)).1)]
 obtain⟨c,e⟩:=zGB (auths:=s.auths) (zs:=s.zones) (l:=l) (m:=[0]) (λx g _=>zSz (zLm (h.v x g)).2.2.1);exact⟨c,λy=>by rw[e];simp⟩
theorem zRr(c:MOk a s)(e:MOk b s)(y:Int):y∈zDL a b s↔y=0\/∃x,(x∈a\/x∈b)/\placeOf s.auths x.auth<s.auths.length/\∃d∈zDa x,(zA4 (zA5 s.zones (placeOf s.auths x.auth)) d).2=0/\y=(zA4 (zA5 s.zones (placeOf s.auths x.auth)) d).1:=by
 unfold zDL zJD;rw[zHS,List.mem_append,(zHT c).2,(zHT e).2];constructor
 ·rintro(((h|⟨x,hx,h⟩)|(h|⟨x,hx,h⟩))|h)
  ·exact .inl h
  ·exact .inr ⟨x,.inl hx,h⟩
  ·exact .inl h
  ·exact .inr ⟨x,.inr hx,h⟩
  simp at h
 rintro(h|⟨x,hx|hx,h⟩)
 ·exact .inl (.inl (.inl h))
 ·exact .inl (.inl (.inr ⟨x,hx,h⟩))
 exact .inl (.inr (.inr ⟨x,hx,h⟩))
theorem zM6(a b:List zF)(s:zM):(zDL a b s).Pairwise (· < ·):=zJo List.Pairwise.nil
theorem zTq(b:zUO s)(hi:i<s.auths.length):zBn (zA5 s.zones i)=true:=(zJF (b.a i hi).1).2.1
theorem zOA(c:MOk a s)(e:MOk b s)(h:y∈zDL a b s):0<=y/\y<=144001439:=by
 rcases(zRr c e y).1 h with rfl|⟨x,_,hx,d,_,hd,rfl⟩
 ·omega
 have:=zRD (zTq (zD6.1 c.p) hx) hd;unfold zCN at this;simpa using this
end
theorem Tryz.egTested:∀args w,(callFunc 172 args).run prog w= .ok (.enter 172 args) w:=enters_of func172 (by kernel_rfl) rfl
theorem zS.alloc{κ:Type}[DecidableEq κ]{enc:κ->Value}{a:List (κ × Value)}(h:zS enc w b a)(o:Obj):zS enc (w.alloc o) b a:=h.of_block (Below.heap_alloc _ _ _ h.lt)
def zCF(kv:List (ByteArray × Value))(l:List ByteArray):List (ByteArray × Value):=l.foldl (λkv n=>zAq kv n (.bool true)) kv
theorem zJq(a:List (ByteArray × Value))(l m:List ByteArray):zCF a (l++m)=zCF (zCF a l) m:=List.foldl_append
theorem zGg:∀(l:List Fm)(k:Nat)(b:k<l.length),zAV (l.take (k+1))=zAV (l.take k)++zAf l[k]
 |a::r,0,_=>by simp[zAV]
 |a::r,k+1,b=>by
  have:=zGg r k (by simpa using b);simp only[List.take_succ_cons,zAV,List.getElem_cons_succ];rw[this,List.append_assoc]
theorem zQ7(q:Nat)(Z:zD)(hZ:¬Z q):∀(m:Nat)(f:Fm),zH f<=m->∀(cs:List Value)(G:List (ByteArray × Value))(w:World),FmR Z w f cs->zH f<=4000000->zS encS w q G->
  Calls prog 172 #[.agg cs.toArray,.map (some q)] w λe w'=>
   e= .returned (.map (some q))/\zS encS w' q (zCF G (zAf f))/\zA (λb=>b≠q) w w':=by
 intro m
 induction m with
 |zero=>intro f hm;have:=zCH f;omega
 |succ m ih=>
 intro f hm cs G w hf J hM;have eg:=Tryz.egTested;have IH:=hid ih;clear ih;obtain⟨op,C,H,I,kids⟩:=f;unfold FmR at hf;obtain⟨_,_,_,_,A,cap,rfl,ae,_,af,ab⟩:=hf;have HS:=hid (zAD.seq ab);clear ab;have z:=zCQ (.mk op C H I kids);simp only[Fm.kids]at z;have ag:kids.length<=4000000:=by have h1:=zCA kids;omega
 have U:=hid (And.intro hm (And.intro J z));have HT:=hid (show zAf (.mk op C H I kids)=(if op=3 then[C]else[])++zAV kids from by rw[zAf]);have HM:=hid (hM.alloc (.cells #[.int .i64 op,.string C,.int .i64 H,.int .i64 I,.slice A kids.length cap] 52));have ah:=hM.lt;clear hm J z hM;by_cases h3:op=3
 ·subst h3;rw[if_pos rfl]at HT;go_enter func172,ntmps172
  go_upto_region 3 with(at_mapUpdate;refine zA6 rfl (.tmp 10) (.tmp 12) _ rfl (zAK (P:=prog) (k:=9) underlying9) (e:=4) underlying95 rfl HM C rfl ?_;intro W ac c ad Y aa)
  have N:=hid (show zS encS W q (zCF G [C]) from ac);have K:=hid (((zA.refl (λb=>b≠q) w).alloc (.cells #[.int .i64 3,.string C,.int .i64 H,.int .i64 I,.slice A kids.length cap] 52)).trans c);have c4:W.cell? ⟨w.heap.size,4,none⟩=some (.slice A kids.length cap):=((Blk.new w 52 #[.int .i64 3,.string C,.int .i64 H,.int .i64 I,.slice A kids.length cap]).keep c (by show w.heap.size≠q;omega)).cell 4;clear ac c ad Y aa;generalize [C]=x at*;have O:=lt_of_cell c4;go_wp2;go_loopw[16] (λi wr=>∃k:Nat,k<=kids.length/\i= .int .i64 k/\zS encS wr q (zCF G (x++zAV (kids.take k)))/\zA (λb=>b≠q) w wr) (λi _=>kids.length-(intOf i).toNat);case atStart=>exact⟨0,Nat.zero_le _,rfl,by simpa[zAV]using N.out,K⟩
  case round=>
   clear c4 O;obtain⟨k,hk,rfl,D,a⟩:=hrel;by_cases d:k<kids.length
   ·obtain⟨b,T,cs,rfl,hz,F,y⟩:=HS.at_ d;have B:zA Z w wr:=a.mono (λb _ hb e=>hZ (e▸hb));have n:=FmR.keep B _ _ y;have HF:=hid n;obtain⟨A',X,rfl⟩:=FmR.form y
    have h:zH kids[k]<=4000000:=by
     have:=zBz d;have:=U.out;omega
    have Q:=zBz d;have R:=U.1;have z:=U.2.2;clear y n;obtain⟨c0,c1,c2,c3,c4⟩:=zAL (λj u hu=>B.cell (p:=⟨b,T+k*5+j,none⟩) hz (F j u hu));clear F;have cl:=lt_of_cell c0;have s:=hid (λo=>IH kids[k] (by omega) _ _ (wr.alloc o) (FmR.keep ((zA.refl Z wr).alloc o) _ _ HF) h (D.alloc o));have M:=hid (show zCF G (x++zAV (kids.take (k+1)))=zCF (zCF G (x++zAV (kids.take k))) (zAf kids[k]) from by rw[zGg _ _ d,<-List.append_assoc,zJq]);have t:=hid a;clear D a B h Q R z;generalize kids[k]=g at*;(go_wp2_with fail);refine(s _).mono ?_;rintro e w1 ⟨rfl,E,c⟩;have V:=hid (And.intro E (t.trans (((zA.refl _ _).alloc _).trans c)));clear E c;go_wp2;go_roundw;(case rel=>exact⟨k+1,by omega,by go_num,by rw[M.out];exact V.1,V.2⟩);case measure=>simp[intOf];omega
   (obtain rfl:k=kids.length:=by omega);rw[List.take_length]at D;have L:=hid D;have t:=hid a;clear D a;go_wp2;refine bodyPost_ret (v:= .map (some q)) (by simp[results,results172,go_sem]) rfl ⟨rfl,?_,t⟩;rw[HT.out];exact L.out
 rw[if_neg h3]at HT;have N:=hid (show zS encS (w.alloc (.cells #[.int .i64 op,.string C,.int .i64 H,.int .i64 I,.slice A kids.length cap] 52)) q (zCF G []) from HM);have K:=hid ((zA.refl (λb=>b≠q) w).alloc (.cells #[.int .i64 op,.string C,.int .i64 H,.int .i64 I,.slice A kids.length cap] 52));generalize ([]:List ByteArray)=x at*;go_enter func172,ntmps172
 go_upto_region 3 with fail
 have c4:(w.alloc (.cells #[.int .i64 op,.string C,.int .i64 H,.int .i64 I,.slice A kids.length cap] 52)).cell? ⟨w.heap.size,4,none⟩=some (.slice A kids.length cap):=(Blk.new w 52 #[.int .i64 op,.string C,.int .i64 H,.int .i64 I,.slice A kids.length cap]).cell 4;clear HM;generalize (w.alloc _)=W at*;have O:=lt_of_cell c4;go_wp2;go_loopw[16] (λi wr=>∃k:Nat,k<=kids.length/\i= .int .i64 k/\zS encS wr q (zCF G (x++zAV (kids.take k)))/\zA (λb=>b≠q) w wr) (λi _=>kids.length-(intOf i).toNat);case atStart=>exact⟨0,Nat.zero_le _,rfl,by simpa[zAV]using N.out,K⟩
 case round=>
  clear c4 O;obtain⟨k,hk,rfl,D,a⟩:=hrel;by_cases d:k<kids.length
  ·obtain⟨b,T,cs,rfl,hz,F,y⟩:=HS.at_ d;have B:zA Z w wr:=a.mono (λb _ hb e=>hZ (e▸hb));have n:=FmR.keep B _ _ y;have HF:=hid n;obtain⟨A',X,rfl⟩:=FmR.form y
   have h:zH kids[k]<=4000000:=by
    have:=zBz d;have:=U.out;omega
   have Q:=zBz d;have R:=U.1;have z:=U.2.2;clear y n;obtain⟨c0,c1,c2,c3,c4⟩:=zAL (λj u hu=>B.cell (p:=⟨b,T+k*5+j,none⟩) hz (F j u hu));clear F;have cl:=lt_of_cell c0;have s:=hid (λo=>IH kids[k] (by omega) _ _ (wr.alloc o) (FmR.keep ((zA.refl Z wr).alloc o) _ _ HF) h (D.alloc o));have M:=hid (show zCF G (x++zAV (kids.take (k+1)))=zCF (zCF G (x++zAV (kids.take k))) (zAf kids[k]) from by rw[zGg _ _ d,<-List.append_assoc,zJq]);have t:=hid a;clear D a B h Q R z;generalize kids[k]=g at*;(go_wp2_with fail);refine(s _).mono ?_;rintro e w1 ⟨rfl,E,c⟩;have V:=hid (And.intro E (t.trans (((zA.refl _ _).alloc _).trans c)));clear E c;go_wp2;go_roundw;(case rel=>exact⟨k+1,by omega,by go_num,by rw[M.out];exact V.1,V.2⟩);case measure=>simp[intOf];omega
  obtain rfl:k=kids.length:=by omega
  rw[List.take_length]at D;have L:=hid D;have t:=hid a;clear D a;go_wp2;refine bodyPost_ret (v:= .map (some q)) (by simp[results,results172,go_sem]) rfl ⟨rfl,?_,t⟩;rw[HT.out];exact L.out
section
open Go.Shelf
theorem zLn(b:Nat)(w:World)(c:w.cell? ⟨b,0,none⟩=some (.pointer (some ⟨b,0,none⟩))):
  Calls prog 250 #[.pointer (some ⟨b,0,none⟩)] w λe w'=>e= .returned (.tuple #[])/\w'=w:=by
 obtain⟨j,a,_⟩:=Option.map_eq_some_iff.1 Tryz.Builder_Extra_169.sizeBuilder;go_enter func250,ntmps250
 go_wp2;rw[Lib.run_neq_ptr_same w _ underlying237 a];go_wp2;go_end0;exact⟨rfl,rfl⟩
theorem zLO(b:Nat)(w:World)(g:w.cell? ⟨b,0,none⟩=some (.pointer none))(a:w.shape? b=some (240,2))(f:w.frozen? ⟨b,0,none⟩=false):
  Calls prog 250 #[.pointer (some ⟨b,0,none⟩)] w λe w'=>e= .returned (.tuple #[])/\w'=w.setCell ⟨b,0,none⟩ (.pointer (some ⟨b,0,none⟩)):=by
 obtain⟨j,d,c⟩:=Option.map_eq_some_iff.1 Tryz.Builder_Extra_169.sizeBuilder;go_enter func250,ntmps250
 go_wp2;rw[Lib.run_to_unsafe w ⟨b,0,none⟩ underlying237 underlying303 d (by rw[c];decide) a (Nat.zero_lt_succ 1)];simp only[Result.andThen];rw[Oper.upon_value];go_wp2;rw[run_callFunc_extern func266 (by kernel_rfl) (by kernel_rfl) (by kernel_rfl) (e:=Extern.AbiNoEscape.same) (by kernel_rfl)];rw[Lib.run_noEscape];simp only[Result.andThen];rw[Oper.upon_value];go_wp2;rw[Lib.run_from_unsafe w ⟨b,0,none⟩ underlying303 underlying237 d a Tryz.Builder_Extra_169.liesBuilder];simp only[Result.andThen];rw[Oper.upon_value];go_wp2;go_end0;exact⟨rfl,rfl⟩
theorem zI0(B b:Nat)(a:List Value)(w:World)(h:Lib.IsBuilderF 240 5 B b a w):
  Calls prog 250 #[.pointer (some ⟨b,0,none⟩)] w λe w'=>e= .returned (.tuple #[])/\(Lib.BuilderAtF 240 5 B b (.pointer (some ⟨b,0,none⟩)) a w'/\Below B w w'/\Lib.OthersKept 5 (some b) w w'):=by
 rcases h with h|h
 ·refine(zLO b w h.cell0 h.shape h.frozen0).mono ?_;rintro e w' ⟨rfl,rfl⟩;exact⟨rfl,h.used _,(Below.refl B w).setCell (p:=⟨b,0,none⟩) h.1 _,(Lib.OthersKept.refl _ _ w).setCell ⟨b,0,none⟩ rfl _⟩
 refine(zLn b w h.cell0).mono ?_;rintro e w' ⟨rfl,rfl⟩;exact⟨rfl,h,Below.refl B _,Lib.OthersKept.refl _ _ _⟩
theorem zLP(B b:Nat)(m:List Value)(s:ByteArray)(w:World)(h:Lib.IsBuilderF 240 5 B b m w)(F:m.length+s.size<=140737488355328)(I:B<=w.heap.size):
  Calls prog 220 #[.pointer (some ⟨b,0,none⟩),.string s] w λe w'=>e= .returned (.tuple #[.int .i64 s.size,.nilIface])/\(Lib.BuilderAtF 240 5 B b (.pointer (some ⟨b,0,none⟩)) (m++Lib.strCells s) w'/\Below B w w'/\Lib.OthersKept 5 (some b) w w'):=by
 have n:((240:TypeId)≠5):=by decide
 obtain⟨L,J,z,A,C⟩:=info_parts Tryz.Builder_Extra_169.infoByte;go_enter func220,ntmps220
 go_wp2_with fail
 refine(zI0 B b m _ h).mono ?_;rintro e o ⟨rfl,H,j,u⟩;obtain⟨E,v,i,c,y⟩:=H;have N:o.cell? ⟨b,0,none⟩=some (.pointer (some ⟨b,0,none⟩)):=by rw[Lib.cell_of_heap i];rfl
 have c1:o.cell? ⟨b,1,none⟩=some v:=by rw[Lib.cell_of_heap i];rfl
 go_wp2_with(at_builtin;refine Lib.wpList_append_own_stringF _ rfl _ _ 238 9 rfl B 5 L underlying238 underlying9 J z A C _ _ _ rfl c s rfl ?c3 ?c4 ?c5 ?_);case c3=>unfold maxLen;omega
 case c4=>omega
 case c5=>have:=j.size;omega
 intro M q d a _
 have x:b<o.heap.size:=by
  rcases Nat.lt_or_ge b o.heap.size with t|t
  ·exact t
  simp[Array.getElem?_eq_none t]at i
 have f:q.heap[b]? =some (.cells #[.pointer (some ⟨b,0,none⟩),v] 240 (0,0)):=by
  rw[a.block b x (λe=>y e.symm)];exact i
 have O:q.cell? ⟨b,0,none⟩=some (.pointer (some ⟨b,0,none⟩)):=by rw[Lib.cell_of_heap f];rfl
 have P:q.cell? ⟨b,1,none⟩=some v:=by rw[Lib.cell_of_heap f];rfl
 have Q:q.frozen? ⟨b,1,none⟩=false:=Lib.frozen_of_heap f 1
 obtain⟨D,G,cap,rfl⟩:∃D G cap,M= .slice D G cap:=by
  rcases d.2 with⟨hv,_⟩|⟨g,cap,cur,fz,hv,_⟩
  ·exact⟨_,_,_,hv⟩
  exact⟨_,_,_,hv⟩
 go_wp2;go_ret2;refine⟨rfl,?_,?_,(u.grown a (Lib.ownsRowF_kind c)).setCell ⟨b,1,none⟩ rfl _⟩
 ·exact Lib.BuilderAtF.put (T:=240) (e:=5) E f (bs':=m++Lib.strCells s) (by simpa[Lib.strCells_length]using d) n
 exact(j.grown a (by have:=j.size;omega) (λk K=>(c.lt k K).1)).setCell (p:=⟨b,1,none⟩) E _
theorem zMy(B b:Nat)(o:List Value)(c:Int)(w:World)(h:Lib.IsBuilderF 240 5 B b o w)(H:o.length+1<=140737488355328)(K:B<=w.heap.size):
  Calls prog 221 #[.pointer (some ⟨b,0,none⟩),.int .u8 c] w λe w'=>e= .returned .nilIface /\(Lib.BuilderAtF 240 5 B b (.pointer (some ⟨b,0,none⟩)) (o++[.int .u8 c]) w'/\Below B w w'/\Lib.OthersKept 5 (some b) w w'):=by
 have s:((240:TypeId)≠5):=by decide
 obtain⟨N,L,D,E,F⟩:=info_parts Tryz.Builder_Extra_169.infoByte;go_enter func221,ntmps221
 go_wp2_with fail
 refine(zI0 B b o _ h).mono ?_;rintro e q ⟨rfl,J,i,z⟩;obtain⟨G,v,n,d,C⟩:=J;have P:q.cell? ⟨b,0,none⟩=some (.pointer (some ⟨b,0,none⟩)):=by rw[Lib.cell_of_heap n];rfl
 have c1:q.cell? ⟨b,1,none⟩=some v:=by rw[Lib.cell_of_heap n];rfl
 go_wp2_with(at_builtin;refine wpList_append_ownF _ rfl _ _ 238 rfl B 5 N (.int .u8 0) 1 1 underlying238 L D E F rfl (by decide) _ _ _ rfl (d.alloc _) ⟨q.heap.size,0,none⟩ 1 1 [.int .u8 c] rfl rfl ?c1 ?c2 ?c3 ?c4 ?c5 ?_)
 case c1=>
  intro j u t
  match j,t with
  |0,t=>simp at t;subst t;simp[Addr.add]
 case c2=>intro u I;simp at I;subst I;rfl
 case c3=>unfold maxLen;omega
 case c4=>omega
 case c5=>have:=i.size;simp;omega
 intro O x f a _
 have A:b<q.heap.size:=by
  rcases Nat.lt_or_ge b q.heap.size with y|y
  ·exact y
  simp[Array.getElem?_eq_none y]at n
 have m:x.heap[b]? =some (.cells #[.pointer (some ⟨b,0,none⟩),v] 240 (0,0)):=by
  rw[a.block b (by simp;omega) (λe=>C e.symm),Lib.alloc_old q _ b A];exact n
 have Q:x.cell? ⟨b,0,none⟩=some (.pointer (some ⟨b,0,none⟩)):=by rw[Lib.cell_of_heap m];rfl
 have R:x.cell? ⟨b,1,none⟩=some v:=by rw[Lib.cell_of_heap m];rfl
 have U:x.frozen? ⟨b,1,none⟩=false:=Lib.frozen_of_heap m 1
 obtain⟨g,cap,rfl⟩:∃g cap,O= .slice (some ⟨g,0,none⟩) (o.length+1) cap:=by
  rcases f.2 with⟨_,h0⟩|⟨g,cap,cur,fz,hv,_⟩
  ·omega
  exact⟨g,cap,hv⟩
 go_wp2;go_ret;refine⟨rfl,?_,?_,((z.alloc _).grown a (Lib.ownsRowF_kind (d.alloc _))).setCell ⟨b,1,none⟩ rfl _⟩
 ·exact Lib.BuilderAtF.put (T:=240) (e:=5) G m (bs':=o++[.int .u8 c]) (by simpa using f) s
 exact((i.alloc (by have:=i.size;omega) _).grown a (by have:=i.size;simp;omega) (λk M=>(d.lt k M).1)).setCell (p:=⟨b,1,none⟩) G _
end
section
open Go.Shelf
theorem Tryz.egSpell:∀args w,(callFunc 174 args).run prog w= .ok (.enter 174 args) w:=enters_of func174 (by kernel_rfl) rfl
abbrev IsB(B b:Nat)(bs:List Value)(w:World):Prop:=Lib.IsBuilderF 240 5 B b bs w
theorem zM7{T e:TypeId}{p:Value}(h:Lib.BuilderAtF T e B b p bs w)(i:Bw w w'):Lib.BuilderAtF T e B b p bs w':=by
 obtain⟨o,v,d,f,q⟩:=h;refine⟨o,v,(i.block b (lt_of_block d)).trans d,⟨f.1,?_⟩,q⟩;rcases f.2 with h|⟨g,cap,a,n,j,k,c,m⟩
 ·exact Or.inl h
 exact Or.inr ⟨g,cap,a,n,j,k,(i.block g (lt_of_block c)).trans c,m⟩
theorem zJI(h:IsB B b bs w)(a:Bw w w'):IsB B b bs w':=h.imp (zM7 · a) (zM7 · a)
theorem zJJ{b:Option Nat}(a:Bw w w'):Lib.OthersKept e b w w':=λk c h _ _=>(a.block k (lt_of_block h)).trans h
theorem zOu(w:World)(k:Nat)(os:Array Obj):Bw w (Sort.grow (w.drewN k) os):=below_grown w k os
theorem zGh(n:Int)(w:World)(a:I64 n)(b:zBr B w):Calls prog 175 #[.int .i64 n] w λe w'=>e= .returned (.string ⟨(Lib.itoa n).toArray⟩)/\Bw w w':=by
 refine(Tryz.strconv_Itoa n a.1 a.2 w b.here).mono ?_;rintro e w' ⟨rfl,k,c,rfl⟩;exact⟨rfl,zOu w k c⟩
def zFH(f:Fm):List UInt8:=Lib.itoa f.op++f.name.data.toList++44::(Lib.itoa f.cmp++44::(Lib.itoa f.num++[40]))
theorem zRu(f:Fm):zBN f=zFH f++(zA1 f.kids++[41]):=by
 obtain⟨op,b,a,c,kids⟩:=f;unfold zBN zFH Fm.op Fm.name Fm.cmp Fm.num Fm.kids;simp
theorem zJK:∀(l:List Fm)(k:Nat)(b:k<l.length),zA1 (l.take (k+1))=zA1 (l.take k)++zBN l[k]
 |a::r,0,_=>by simp[zA1]
 |a::r,k+1,b=>by
  have:=zJK r k (by simpa using b);simp only[List.take_succ_cons,zA1,List.getElem_cons_succ];rw[this,List.append_assoc]
theorem zLQ:∀(l:List Fm)(k:Nat),(zA1 (l.take k)).length <=(zA1 l).length
 |[],k=>by simp
 |a::r,0=>by simp[zA1]
 |a::r,k+1=>by
  have:=zLQ r k;simp only[List.take_succ_cons,zA1,List.length_append];omega
theorem zRv(B b:Nat)(Z:zD)(hZ:∀z,Z z->z<B):∀(m:Nat)(f:Fm),zH f<=m->∀(cs:List Value)(bs:List Value)(w:World),FmR Z w f cs->zH f<=4000000->bs.length+(zBN f).length <=140737488355328->zBr B w->IsB B b bs w->B<=w.heap.size->
  Calls prog 174 #[.pointer (some ⟨b,0,none⟩),.agg cs.toArray] w λe w'=>
   e= .returned (.tuple #[])/\IsB B b (bs++Lib.byteCells (zBN f)) w'/\Below B w w'/\Lib.OthersKept 5 (some b) w w':=by
 intro m
 induction m with
 |zero=>intro f hm;have:=zCH f;omega
 |succ m ih=>
 intro f hm cs bs w hf af aq C hB D;have eg:=Tryz.egSpell;have IH:=hid ih;clear ih;have Q:=hid (zRu f);obtain⟨op,q,d,n,kids⟩:=f;unfold FmR at hf;obtain⟨V,bw,R,T,A,cap,rfl,br,_,bu,bc⟩:=hf;have HS:=hid (zAD.seq bc);clear bc;have M:=zCQ (.mk op q d n kids);simp only[Fm.kids]at M;have bv:kids.length<=4000000:=by have K:=zCA kids;omega
 have HL:=hid (And.intro hm (And.intro af (And.intro M aq)));obtain⟨t1,X,bx⟩:∃t:ByteArray,t=⟨(Lib.itoa op).toArray⟩/\t.size<=30:=⟨_,rfl,by have:=Lib.itoa_length_le op V.1 V.2;simp[ByteArray.size];omega⟩;obtain⟨t2,Y,bz⟩:∃t:ByteArray,t=⟨(Lib.itoa d).toArray⟩/\t.size<=30:=⟨_,rfl,by have:=Lib.itoa_length_le d R.1 R.2;simp[ByteArray.size];omega⟩;obtain⟨t3,aa,b0⟩:∃t:ByteArray,t=⟨(Lib.itoa n).toArray⟩/\t.size<=30:=⟨_,rfl,by have:=Lib.itoa_length_le n T.1 T.2;simp[ByteArray.size];omega⟩;have a1:=hid (λW hb=>zGh op W V (C.on (w':=W) hb));have a2:=hid (λW hb=>zGh d W R (C.on (w':=W) hb));have a3:=hid (λW hb=>zGh n W T (C.on (w':=W) hb));rw[<-X]at a1;rw[<-Y]at a2;rw[<-aa]at a3;have bt:=hid (And.intro X (And.intro Y aa));have a:∀(x y:ByteArray),x.size+y.size<=9223372036854775807->∃u:ByteArray,u=x++y/\∀W,(Op.stringOp .add x y).run prog W= .ok (.string u) W:=λx y h=>⟨_,rfl,λW=>run_string_add_sum W x y h⟩
 obtain⟨u1,E,e1⟩:=a t1 q (by omega);obtain⟨u2,I,e2⟩:=a u1 ⟨#[44]⟩ (by rw[E,ByteArray.size_append];show _+1<=_;omega);obtain⟨u3,O,e3⟩:=a u2 t2 (by rw[I,E];simp only[ByteArray.size_append];show _+_+1+_<=_;omega);obtain⟨u4,ab,e4⟩:=a u3 ⟨#[44]⟩ (by rw[O,I,E];simp only[ByteArray.size_append];show _+_+1+_+1<=_;omega);obtain⟨u5,ay,e5⟩:=a u4 t3 (by rw[ab,O,I,E];simp only[ByteArray.size_append];show _+_+1+_+1+_<=_;omega);obtain⟨u6,bf,e6⟩:=a u5 ⟨#[40]⟩ (by rw[ay,ab,O,I,E];simp only[ByteArray.size_append];show _+_+1+_+1+_+1<=_;omega)
 have HU:=hid (show Lib.strCells u6=Lib.byteCells (zFH (.mk op q d n kids)) from by
  rw[bf,ay,ab,O,I,E,X,Y,aa];unfold Lib.strCells Lib.byteCells zFH
  simp[Fm.op,Fm.name,Fm.cmp,Fm.num])
 clear X Y aa E I O ab ay bf a;have HW:=hid (λW s K(h2:B<=W.heap.size)(h:IsB B b bs W)=>zLP B b bs s W h K h2);have a5:=hid C;have HB:=hid hB;clear hm af M C hB V R T aq;go_enter func174,ntmps174
 go_wp2
 have bi:=hid (show bs.length+u6.size<=140737488355328 from by
  have K:=HL.2.2.2;have h2:=congrArg List.length HU.out;rw[Lib.strCells_length,Lib.byteCells_length]at h2;rw[Q.out,List.length_append]at K
  omega)
 have aq:=HB.elim Lib.BuilderAtF.lt Lib.BuilderAtF.lt
 go_region_held3(λw'=>w'.cell? ⟨w.heap.size,0,none⟩=some (.int .i64 op)/\w'.cell? ⟨w.heap.size,1,none⟩=some (.string q)/\w'.cell? ⟨w.heap.size,2,none⟩=some (.int .i64 d)/\w'.cell? ⟨w.heap.size,3,none⟩=some (.int .i64 n)) (first|exact⟨p0,p1,p2,p3⟩|exact⟨q0,q1,q2,q3⟩|(refine⟨?_,?_,?_,?_⟩<;>go_keep))
  (first
   |(go_at_call 175;refine(a1 _ ((zG w _).drew.mono D)).mono ?_;rintro e w1 ⟨rfl,al⟩;have F:=(Blk.new w 52 #[.int .i64 op,.string q,.int .i64 d,.int .i64 n,.slice A kids.length cap]).drew.below al (by simp);have az:=zC (zG w _).drew al (by simp);have q0:w1.cell? ⟨w.heap.size,0,none⟩=some (.int .i64 op):=F.cell 0;have q1:w1.cell? ⟨w.heap.size,1,none⟩=some (.string q):=F.cell 1;have q2:w1.cell? ⟨w.heap.size,2,none⟩=some (.int .i64 d):=F.cell 2;have q3:w1.cell? ⟨w.heap.size,3,none⟩=some (.int .i64 n):=F.cell 3)
   |(go_at_call 175;refine(a2 _ (az.mono D)).mono ?_;rintro e w2 ⟨rfl,ao⟩;have G:=F.below ao F.lt;have a0:=zC az ao;have q0:w2.cell? ⟨w.heap.size,0,none⟩=some (.int .i64 op):=G.cell 0;have q1:w2.cell? ⟨w.heap.size,1,none⟩=some (.string q):=G.cell 1;have q2:w2.cell? ⟨w.heap.size,2,none⟩=some (.int .i64 d):=G.cell 2;have q3:w2.cell? ⟨w.heap.size,3,none⟩=some (.int .i64 n):=G.cell 3)
   |(go_at_call 175;refine(a3 _ (a0.mono D)).mono ?_;rintro e w3 ⟨rfl,ap⟩;have J:=G.below ap G.lt;have P:=zC a0 ap;have q0:w3.cell? ⟨w.heap.size,0,none⟩=some (.int .i64 op):=J.cell 0;have q1:w3.cell? ⟨w.heap.size,1,none⟩=some (.string q):=J.cell 1;have q2:w3.cell? ⟨w.heap.size,2,none⟩=some (.int .i64 d):=J.cell 2;have q3:w3.cell? ⟨w.heap.size,3,none⟩=some (.int .i64 n):=J.cell 3)
   |(go_at_call 220;refine(HW _ _ bi (Nat.le_trans D P.size) (zJI HB P)).mono ?_;rintro e w4 ⟨rfl,aj,a8,aw⟩;have H:Blk w4 w.heap.size 52 _:=aw w.heap.size _ J (by intro e;injection e with e;omega) (by intro c fz e;injection e with _ e;exact absurd e (by decide));have p0:w4.cell? ⟨w.heap.size,0,none⟩=some (.int .i64 op):=H.cell 0;have p1:w4.cell? ⟨w.heap.size,1,none⟩=some (.string q):=H.cell 1;have p2:w4.cell? ⟨w.heap.size,2,none⟩=some (.int .i64 d):=H.cell 2;have p3:w4.cell? ⟨w.heap.size,3,none⟩=some (.int .i64 n):=H.cell 3))
 rw[HU.out]at aj;have c4:=H.at4;have bm:=H.lt;have ad:Below B w w4:=(P.mono D).trans a8;have ah:Lib.OthersKept 5 (some b) w w4:=(zJJ P).trans aw;have bg:=hid (show IsB B b (bs++Lib.byteCells (zFH (.mk op q d n kids))) w4 from Or.inr aj);have a4:=hid (And.intro ad ah);clear aj a8 aw H P ap J a0 ao G az al F p0 p1 p2 p3 q0 q1 q2 q3 ad ah e1 e2 e3 e4 e5 e6;go_wp2;go_loopw[28] (λi wr=>∃k:Nat,k<=kids.length/\i= .int .i64 k/\IsB B b (bs++Lib.byteCells (zFH (.mk op q d n kids)++zA1 (kids.take k))) wr/\Below B w wr/\Lib.OthersKept 5 (some b) w wr) (λi _=>kids.length-(intOf i).toNat);case atStart=>exact⟨0,Nat.zero_le _,rfl,by simpa[zA1]using bg.out,a4.1,a4.2⟩
 case round=>
  clear c4 bm;obtain⟨k,hk,rfl,hO,v,U⟩:=hrel;by_cases av:k<kids.length
  ·obtain⟨b',bp,cs,rfl,hz,ba,ar⟩:=HS.at_ av;have au:zA Z w wr:=zA.of_below_lt v (λz _ hz=>hZ z hz);have ae:=FmR.keep au _ _ ar;have HF:=hid ae;obtain⟨A',bq,rfl⟩:=FmR.form ar;have bn:=zBz av;(have ac:zH kids[k]<=4000000:=by have:=HL.out;omega);have bo:=HL.1;have M:=HL.2.2.1;have ax:=zJK kids k av
   have N:(bs++Lib.byteCells (zFH (.mk op q d n kids)++zA1 (kids.take k))).length +(zBN kids[k]).length <=140737488355328:=by
    have K:=HL.2.2.2;have h2:=zLQ kids (k+1);rw[ax]at h2;rw[Q.out]at K;simp only[List.length_append,Lib.byteCells_length]at K h2⊢;simp only[Fm.kids]at K;omega
   clear ar ae;obtain⟨c0,c1,c2,c3,c4⟩:=zAL (λj u hu=>au.cell (p:=⟨b',bp+k*5+j,none⟩) hz (ba j u hu));clear ba;have cl:=lt_of_cell c0;have ak:=Nat.le_trans D v.size;have ai:=hid (λo=>IH kids[k] (by omega) _ _ (wr.alloc o) (FmR.keep ((zA.refl Z wr).alloc o) _ _ HF) ac N (a5.on (v.alloc ak o)) (hO.alloc o) (by simp;omega));have bj:=hid (show bs++Lib.byteCells (zFH (.mk op q d n kids)++zA1 (kids.take (k+1)))=bs++Lib.byteCells (zFH (.mk op q d n kids)++zA1 (kids.take k))++Lib.byteCells (zBN kids[k]) from by rw[ax];simp[Lib.byteCells]);have L:=hid (And.intro v U);have bh:=hid ak;clear hO v U au ac bn bo M N ax ak;generalize kids[k]=g at*;(go_wp2_with fail);refine(ai _).mono ?_;rintro e w5 ⟨rfl,a7,bb,ag⟩;have H9:=hid (And.intro a7 (And.intro ((L.1.alloc bh _).trans bb) ((L.2.trans (zJJ (zG wr _))).trans ag)));clear a7 bb ag;go_wp2;go_roundw;(case rel=>exact⟨k+1,by omega,by go_num,by rw[bj.out];exact H9.1,H9.2.1,H9.2.2⟩);case measure=>simp[intOf];omega
  obtain rfl:k=kids.length:=by omega
  rw[List.take_length]at hO
  have N:(bs++Lib.byteCells (zFH (.mk op q d n kids)++zA1 kids)).length +1<=140737488355328:=by
   have K:=HL.2.2.2;rw[Q.out]at K;simp only[List.length_append,Lib.byteCells_length,List.length_cons,List.length_nil]at K⊢;simp only[Fm.kids]at K;omega
  have bk:=hid (zMy B b _ 41 wr hO N (Nat.le_trans D v.size));have L:=hid (And.intro v U);clear hO v U N;go_wp2_with fail
  refine bk.mono ?_;rintro e w5 ⟨rfl,a6,a9,bd⟩
  have HP:=hid (show IsB B b (bs++Lib.byteCells (zBN (.mk op q d n kids))) w5/\Below B w w5/\Lib.OthersKept 5 (some b) w w5 from by
   refine⟨Or.inr ?_,L.1.trans a9,L.2.trans bd⟩;have e:bs++Lib.byteCells (zBN (.mk op q d n kids))=bs++Lib.byteCells (zFH (.mk op q d n kids)++zA1 kids)++[.int .u8 41]:=by rw[Q.out];simp[Lib.byteCells,Fm.kids]
   rw[e];exact a6)
  clear a6 a9 bd;go_wp2;go_end0;exact⟨rfl,HP⟩
end
def zRw:ByteArray:=⟨#[]⟩
section
variable {ds:List zE} {L:Nat->List Int} {a b g:List zB} {e:Int} {l:List zF} {st:zAH}
structure DM (ds:List zE) (L:Nat->List Int) (g:List zB):Prop where
 v:zBP ds g
 t:zTX ds L (S ds g 0)
structure zUe (ds:List zE) (L:Nat->List Int):Prop where
 asc:∀i,i<ds.length->zAE (ds.getD i zAP).lo (ds.getD i zAP).hi (L i)
 n:zXV L ds.length<=2000
 d:zT ds=true
theorem DM.not(h:DM ds L g):DM ds L (zXP g):=⟨(zTW h.v).1,h.t.not.congr λc _=>((zTW h.v).2 c).symm⟩
theorem zVG(h:zUe ds L)(he:e=0)(d:DM ds L a)(f:DM ds L b):(zBH ds e a b).2=0/\DM ds L (zBH ds e a b).1:=by
 have g:(zBH ds e a b).2=0:=by
  unfold zBH;rw[if_neg (by simp[he])];exact zWo h.asc h.n d.v f.v d.t f.t
 obtain⟨_,_,_,i,j⟩:=zRe g;exact⟨g,i,(d.t.and f.t).congr λc k=>(j c k).symm⟩
theorem zUi(f:zUe ds L)(he:e=0)(g:DM ds L a)(h:DM ds L b):(zAt ds e a b).2=0/\DM ds L (zAt ds e a b).1:=by
 obtain⟨c,d⟩:=zVG f he g.not h.not;exact⟨c,d.not⟩
theorem zW6(c:zUe ds L)(he:e=0)(d:DM ds L a)(f:DM ds L b):(zER ds e a b).2=0/\DM ds L (zER ds e a b).1:=by
 obtain⟨g,h⟩:=zVG c he d f.not;obtain⟨i,j⟩:=zVG c g f d.not;exact zUi c i h j
theorem zXI{f g c d:List zB}(a:zUe ds L)(he:e=0)(n:DM ds L f)(o:DM ds L g)(k:DM ds L c)(m:DM ds L d):(zGf ds e f g c d).2=0/\DM ds L (zGf ds e f g c d).1:=by
 obtain⟨b,h⟩:=zW6 a he n o;obtain⟨i,j⟩:=zW6 a b k m;exact zUi a i h j
theorem zVd(a:zUe ds L):DM ds L (zJ ds):=⟨(zKN a.d).v,(zTX.const false).congr λc b=>((zKN a.d).s c b).symm⟩
structure NE (ds:List zE) (L:Nat->List Int) (st:zAH):Prop where
 e:st.err=0
 b:∀i g,mapD st.built i=some g->DM ds L g
def OKL(ds:List zE)(L:Nat->List Int)(l:List zF):Prop:=∀m∈l,(zBp ds m.when_).2=0/\zTX ds L (λc=>evF ds c m.when_)
theorem zWY(s:OKL ds L l)(h:NE ds L st)(hi:i<l.length):NE ds L (ofM ds l st i).2/\DM ds L (ofM ds l st i).1:=by
 unfold ofM
 cases u:mapD st.built i with
 |some g=>exact⟨h,h.b i g u⟩
 |none=>
 dsimp only;rw[if_pos h.e];have f:zq l i∈l:=by rw[zM4 hi];exact List.getElem_mem hi
 obtain⟨k,n⟩:=s _ f;obtain⟨o,q⟩:=zNk (g:=(zBp ds (zq l i).when_).1) (Prod.ext rfl k);have m:DM ds L (zBp ds (zq l i).when_).1:=⟨o,n.congr λc t=>(q c t).symm⟩;refine⟨⟨k,λj g a=> ?_⟩,m⟩;by_cases d:j=i
 ·subst d;rw[mapD_same]at a;injection a with a;subst a;exact m
 rw[zGN _ d]at a;exact h.b j g a
def PN(ds:List zE)(L:Nat->List Int)(q:List zB × zAH):Prop:=NE ds L q.2/\DM ds L q.1
theorem zUd{α β:Type}{P:α->Prop}{f:α->β->α}:∀(l:List β)(q:α),(∀k∈l,∀q,P q->P (f q k))->P q->P (l.foldl f q)
 |[],_,_,h=>h
 |k::r,q,hf,h=>zUd r _ (λk a=>hf k (by simp[a])) (hf k (by simp) q h)
theorem zWt(g:zUe ds L)(i:OKL ds L l){x mid:ByteArray}{q:List zB × zAH}(j:k<l.length)(h:PN ds L q):PN ds L (zBe ds l x mid q k):=by
 unfold zBe;split
 ·obtain⟨a,c⟩:=zWY i h.1 j;obtain⟨d,f⟩:=zVG g a.e h.2 c.not;exact⟨⟨d,a.b⟩,f⟩
 exact h
theorem zWu(d:zUe ds L)(f:OKL ds L l)(c:∀k∈ex,k<l.length){q:List zB × zAH}(hi:i<l.length)(h:PN ds L q):PN ds L (zB5 ds l ex x q i):=by
 unfold zB5;split
 ·exact h
 dsimp only;have g:PN ds L (ofM ds l q.2 i):=zWY f h.1 hi;have a:=zUd (P:=PN ds L) ex _ (λk n q o=>zWt d f (x:=x) (mid:=(zq l i).id) (c k n) o) g;obtain⟨j,m⟩:=zUi d a.1.e h.2 a.2;exact⟨⟨j,a.1.b⟩,m⟩
structure CN (ds:List zE) (L:Nat->List Int) (q:zHE):Prop where
 o:∀a g,mapD q.own a=some g->DM ds L g
 f:DM ds L q.forb
 s:NE ds L q.st
theorem zWv(i:zUe ds L)(u:OKL ds L l)(m:∀k∈fb,k<l.length)(j:∀k∈ex,k<l.length){q:zHE}(h:CN ds L q):CN ds L (zCE ds l fb ex q x):=by
 have d:=zUd (P:=PN ds L) fb (zJ ds,q.st) (λk v q w=>zWu i u (x:=x) j (m k v) w) ⟨h.s,zVd i⟩;unfold zCE;generalize fb.foldl (zB5 ds l ex x) (zJ ds,q.st)=r at*;dsimp only;obtain⟨n,t⟩:=zUi i d.1.e h.f d.2;refine⟨λy g a=> ?_,t,⟨n,d.1.b⟩⟩;replace a:mapD (zAp q.own x r.1) y=some g:=a;by_cases c:y=x
 ·subst c;rw[mapD_same]at a;injection a with a;subst a;exact d.2
 rw[zGN _ c]at a;exact h.o y g a
theorem zWw(d:zUe ds L)(o:OKL ds L l){own:List (ByteArray × List zB)}(t:∀a g,mapD own a=some g->DM ds L g){q:List zB × zAH}(hi:i<l.length)(h:PN ds L q):PN ds L (zCW ds l own q i):=by
 unfold zCW
 cases s:mapD own (zq l i).target with
 |none=>exact h
 |some g=>
 dsimp only;obtain⟨c,f⟩:=zWY o h.1 hi;obtain⟨j,k⟩:=zVG d c.e f (t _ _ s);obtain⟨m,n⟩:=zUi d j h.2 k;exact⟨⟨m,c.b⟩,n⟩
theorem zVe{sg nw k:Int}:∀i∈zBJ l s sg nw k,i<l.length:=λi a=>by
 unfold zBJ at a;exact List.mem_range.1 (List.mem_filter.1 a).1
theorem zW7(a:zUe s.dom L)(d:OKL s.dom L l)(h:NE s.dom L st):NE s.dom L (zBV l s sg nw st).2.2/\DM s.dom L (zBV l s sg nw st).1/\DM s.dom L (zBV l s sg nw st).2.1:=by
 have b:=zUd (P:=CN s.dom L) s.auths ⟨[],zJ s.dom,st⟩ (λx _ q g=>zWv a d (x:=x) (fb:=zBJ l s sg nw 1) (ex:=zBJ l s sg nw 2) zVe zVe g) ⟨λ_ _ h=>by simp[mapD]at h,zVd a,h⟩;unfold zBV;dsimp only;generalize s.auths.foldl (zCE s.dom l (zBJ l s sg nw 1) (zBJ l s sg nw 2)) ⟨[],zJ s.dom,st⟩=q at*;have c:=zUd (P:=PN s.dom L) (zBJ l s sg nw 3) (zJ s.dom,q.st) (λk e r i=>zWw a d b.o (zVe k e) i) ⟨b.s,zVd a⟩;exact⟨c.1,b.f,c.2⟩
end
section
variable {a b l:List zF} {s:zM} {L:Nat->List Int}
theorem zWH(d:zUe s.dom L)(g:OKL s.dom L a)(h:OKL s.dom L b):∀(k:List (Int × Int))(x y:zAH),NE s.dom L x->NE s.dom L y->(zBk a b s k x y).2.2=0
 |[],_,_,_,_=>rfl
 |p::r,x,y,hx,hy=>by
  unfold zBk;dsimp only;obtain⟨i,m,n⟩:=zW7 (sg:=p.1) (nw:=p.2) d g hx;obtain⟨j,o,q⟩:=zW7 (sg:=p.1) (nw:=p.2) d h hy;rw[if_neg (by simp[j.e])];obtain⟨f,-⟩:=zXI d i.e m o n q;rw[if_neg (by simp[f])]
  cases zDS s.dom (zGf s.dom (zBV a s p.1 p.2 x).2.2.err (zBV a s p.1 p.2 x).1 (zBV b s p.1 p.2 y).1 (zBV a s p.1 p.2 x).2.1 (zBV b s p.1 p.2 y).2.1).1 with
  |none=>exact zWH d g h r _ _ ⟨f,i.b⟩ j
  |some c=>rfl
theorem zEo:(zP l s).2=zDc l s:=by
 unfold zP;split
 ·rfl
 rename_i h;simp at h;exact h.symm
def zWh(a b:List zF)(s:zM):Prop:=MOk a s->MOk b s->∃L,zUe s.dom L/\OKL s.dom L a/\OKL s.dom L b
theorem zWh.turn(h:zWh a b s):zWh b a s:=λg f=>by obtain⟨L,c,d,e⟩:=h f g;exact⟨L,c,e,d⟩
theorem zUj(m:zWh a b s):(zAO a b s).2.2=0↔MOk a s/\MOk b s/\(zDL a b s).length <=40:=by
 unfold zAO;rw[zEo,zEo];by_cases f:zCR s=false
 ·rw[if_pos f];refine⟨λh=>absurd h (by decide),λh=> ?_⟩;have:=h.1.p;rw[f]at this;cases this
 rw[if_neg f];by_cases c:zDc a s=0
 ·rw[if_neg (by simp[c])];by_cases d:zDc b s=0
  ·rw[if_neg (by simp[d])];have c:=zBt.1 c;have d:=zBt.1 d;by_cases e:40<(zDL a b s).length
   ·rw[if_pos e];exact⟨λh=>absurd h (by decide),λh=>by omega⟩
   rw[if_neg e];refine⟨λ_=>⟨c,d,by omega⟩,λ_=> ?_⟩;obtain⟨L,i,j,k⟩:=m c d;have g:NE s.dom L ⟨0,[]⟩:=⟨rfl,λ_ _ h=>by simp[mapD]at h⟩;exact zWH i j k _ _ _ g g
  rw[if_pos (by simpa using d)];exact⟨λh=>absurd h d,λh=>absurd (zBt.2 h.2.1) d⟩
 rw[if_pos (by simpa using c)];exact⟨λh=>absurd h c,λh=>absurd (zBt.2 h.1) c⟩
theorem zOB:∀{l m:List Int},l.Pairwise (· < ·)->m.Pairwise (· < ·)->(∀x,x∈l↔x∈m)->l=m
 |[],[],_,_,_=>rfl
 |[],y::m,_,_,h=>absurd ((h y).2 (by simp)) (by simp)
 |x::l,[],_,_,h=>absurd ((h x).1 (by simp)) (by simp)
 |x::l,y::m,hl,hm,h=>by
  rw[List.pairwise_cons]at hl hm
  have e:x=y:=by
   rcases List.mem_cons.1 ((h x).1 (by simp))with e|e
   ·exact e
   rcases List.mem_cons.1 ((h y).2 (by simp))with e'|e'
   ·exact e'.symm
   have:=hm.1 x e;have:=hl.1 y e';omega
  subst e;rw[zOB hl.2 hm.2 λz=> ?_];constructor
  ·intro a;have:=hl.1 z a;rcases List.mem_cons.1 ((h z).1 (by simp[a]))with e|e
   ·omega
   exact e
  intro a;have:=hm.1 z a;rcases List.mem_cons.1 ((h z).2 (by simp[a]))with e|e
  ·omega
  exact e
def zQ8(a b:List zF):Fm:= .mk 5 ⟨#[]⟩ 0 0 (a.map zF.when_++b.map zF.when_)
theorem zXG{n:Int}(w:zEF (zQ8 a b) n s.dom 1<=n)(B:n<=2000)(y:s.dom.length<=24):zWh a b s:=λq u=>by
 have k:=zD6.1 q.p
 have z:∀x∈s.dom,x.hi<=1000000:=λx A=>by
  have e:=k.d;unfold zT at e;simp only[Bool.and_eq_true,List.all_eq_true]at e;have:=e.1.1 x A;unfold zCY at this;simp only[Bool.and_eq_true,Bool.or_eq_true,beq_iff_eq,decide_eq_true_eq]at this;omega
 have e:=zVk (f:=zQ8 a b) s.dom 1 z (Int.le_refl _) w;have o:zXS (zQ8 a b) s.dom<=2000:=by omega
 refine⟨λi=>zVF (zQ8 a b) (s.dom.getD i zAP),⟨λi _=>zXA _ _,by rw[zXB];exact o,k.d⟩,?_,?_⟩
 all_goals
  intro m g;have t:=(zLm ((by first|exact q.v m g|exact u.v m g):zBA s.dom m=0)).2.2.2
  have c:∀j n,n∈zAX j m.when_->n∈zAX j (zQ8 a b):=λj n h=>by
   unfold zQ8;rw[zAX];refine List.mem_append_right _ ((zLB j).2 ⟨m.when_,?_,h⟩);simp only[List.mem_append,List.mem_map];first|exact .inl ⟨m,g,rfl⟩|exact .inr ⟨m,g,rfl⟩
  exact⟨zW2 k.d t (Nat.le_trans (zUk c s.dom) o) y,zWp (zHO t).2 c⟩
end
def zAa:ByteArray:=⟨#[108,105,115,116,101,100]⟩
def nEu:ByteArray:=⟨#[101,117]⟩
def nUs:ByteArray:=⟨#[117,115]⟩
def nM1:ByteArray:=⟨#[109,49]⟩
def nM2:ByteArray:=⟨#[109,50]⟩
def nK1:ByteArray:=⟨#[98,49]⟩
def zEG:zM:=⟨[⟨zAa,1,0,1⟩],[nEu,nUs],[[(0,0)],[(0,0)]],[[0],[0]],0,0⟩
def zBl(n:Int):Fm:= .mk 3 zAa 1 n []
def zDp(i:ByteArray)(f:Fm)(d w:Int):zF:=⟨i,nEu,1,⟨#[]⟩,f,d,-1,w⟩
def zOC:zF:=⟨nK1,nUs,3,nEu,.mk 1 ⟨#[]⟩ 0 0 [],2,-1,0⟩
def zEY:List zF:=[zDp nM1 (zBl 1) 2 0]
def zIJ:List zF:=[zDp nM2 (.mk 4 ⟨#[]⟩ 0 0 [zBl 0]) 2 0]
def zNE:List zF:=[zDp nM1 (zBl 1) 3 0]
def zNF:List zF:=[zDp nM1 (zBl 1) 2 0,zOC]
def zNG:List zF:=[zDp nM1 (zBl 1) 2 1]
theorem zTZ:(zAO zEY zIJ zEG).2=(false,0):=by decide+kernel
theorem zU1:zAO zEY zNE zEG=(⟨0,2880,[1],⟨2,[nM1],[]⟩,⟨1,[],[]⟩⟩,true,0):=by kernel_rfl
theorem zTr:zAO zEY zNF zEG=(⟨0,2880,[1],⟨2,[nM1],[]⟩,⟨3,[nM1],[nK1]⟩⟩,true,0):=by kernel_rfl
theorem zUP:zAO zEY zNG zEG=(⟨0,2880,[1],⟨2,[nM1],[]⟩,⟨1,[],[]⟩⟩,true,0):=by kernel_rfl
end Go.Proofs.YtommaegelgilnaaGreatDoor
