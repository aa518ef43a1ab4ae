/- Texts NR A P PL G B L M. -/
import Derived.WalkKit
import Derived.Deep.Draws
import Derived.Lib.Index
import Derived.Deep.MidRow
import Derived.Maps.AppendAt
import Derived.ChangeMaps4
set_option linter.all false
namespace Go.Proofs.YthpocbeoanipbaaGreatDoor
open Go.RowKit
variable{B base i j k n off:Nat}{G b b2 g want:Bool}{Q:Exit->Act->World->Prop}{a:Act}{c x y:Operand}{cs l news:List Value}{d:Tmp}{e t:TypeId}{hi kd lo:Int}{nm s:ByteArray}{o:Oper}{ops:Array Oper}{p:Addr}{rest:List Oper}{u v x0 z:Value}{w w':World}{xs:List Int}
theorem nr:(∀(a:Act)(d:Option Tmp)(v:Value),a.put d v=match d with|some d=>{a with tmps:=a.tmps.setIfInBounds d v}|none=>a)/\
  (∀(α:Type)(l:List α)(i:Nat)(x:α),l.toArray.setIfInBounds i x=(l.set i x).toArray)/\(∀(α:Type)(a:α)(l:List α)(i:Nat)(x:α),(a::l).set (i+1) x=a::l.set i x)/\
  ∀(α:Type)(a:α)(l:List α)(x:α),(a::l).set 0 x=x::l:=⟨λ_ _ _=>rfl,λ_ _ _ _=>List.setIfInBounds_toArray ..,λ_ _ _ _ _=>rfl,λ_ _ _ _=>rfl⟩
theorem nq:(∀(α:Type)(l:List α)(i:Nat)(h:i<l.toArray.size),l.toArray[i]=l[i]'(by simpa using h))/\(∀(α:Type)(a:α)(l:List α)(h:0<(a::l).length),(a::l)[0]=a)/\
  (∀(α:Type)(a:α)(l:List α)(i:Nat)(h:i+1<(a::l).length),(a::l)[i+1]=l[i]'(by simpa using h))/\
  (∀(a:Act)(d:Option Tmp)(v:Value),a.put d v=match d with|some d=>{a with tmps:=a.tmps.setIfInBounds d v}|none=>a)/\
  (∀(α:Type)(l:List α)(i:Nat)(x:α),l.toArray.setIfInBounds i x=(l.set i x).toArray)/\(∀(α:Type)(a:α)(l:List α)(i:Nat)(x:α),(a::l).set (i+1) x=a::l.set i x)/\
  ∀(α:Type)(a:α)(l:List α)(x:α),(a::l).set 0 x=x::l:=⟨λ_ _ _ _=>rfl,λ_ _ _ _=>rfl,λ_ _ _ _ _=>rfl,nr⟩
theorem brd(h:Below n w w')(e:w.cell? p=some v)(a:p.block<n):w'.cell? p=some v:=(h.cell a).trans e
theorem hid{p:Prop}(h:p):Hid p:=h
abbrev zE:=Nat->Prop
structure zA (Z:zE) (w w':World):Prop where
 os:w'.os=w.os
 tape:w'.tape=w.tape
 output:w'.output=w.output
 size:w.heap.size<=w'.heap.size
 block:∀k,k<w.heap.size->Z k->w'.heap[k]? =w.heap[k]?
section keeps
variable {Z Z':zE} {w w' w'':World}
theorem zA.refl(Z:zE)(w:World):zA Z w w:=⟨rfl,rfl,rfl,Nat.le_refl _,λ_ _ _=>rfl⟩
theorem zA.trans(h:zA Z w w')(k:zA Z w' w''):zA Z w w'':=
 ⟨k.os.trans h.os,k.tape.trans h.tape,k.output.trans h.output,Nat.le_trans h.size k.size,λi hi a=>(k.block i (Nat.lt_of_lt_of_le hi h.size) a).trans (h.block i hi a)⟩
theorem zA.mono(h:zA Z w w')(d:∀b,b<w.heap.size->Z' b->Z b):zA Z' w w':=⟨h.os,h.tape,h.output,h.size,λk c a=>h.block k c (d k c a)⟩
theorem zA.of_below(h:Below w.heap.size w w'):zA Z w w':=⟨h.os,h.tape,h.output,h.size,λk a _=>h.block k a⟩
theorem zA.of_below_lt(h:Below B w w')(d:∀b,b<w.heap.size->Z b->b<B):zA Z w w':=⟨h.os,h.tape,h.output,h.size,λk c a=>h.block k (d k c a)⟩
theorem zA.below(h:zA (λ_=>True) w w'):Below w.heap.size w w':=⟨h.os,h.tape,h.output,h.size,λk a=>h.block k a trivial⟩
theorem zA.drew(h:zA Z w w'):zA Z w w'.drew:=⟨h.os,h.tape,h.output,h.size,h.block⟩
theorem zA.drewN(h:zA Z w w')(n:Nat):zA Z w (w'.drewN n):=⟨h.os,h.tape,h.output,h.size,h.block⟩
theorem zA.alloc(h:zA Z w w')(o:Obj):zA Z w (w'.alloc o):=
 ⟨h.os,h.tape,h.output,Nat.le_trans h.size (by simp),λk a b=>(Below.heap_alloc _ _ _ (Nat.lt_of_lt_of_le a h.size)).trans (h.block k a b)⟩
theorem zA.setCell(h:zA Z w w')(c:p.block<w.heap.size->¬Z p.block)(u:Value):zA Z w (w'.setCell p u):=
 ⟨h.os,h.tape,h.output,Nat.le_trans h.size (by simp[World.setCell]),λk a b=>(Below.heap_setCell _ _ _ _ (λe=>by subst e;exact c a b)).trans (h.block k a b)⟩
theorem zA.grown{row:Option Nat}(h:zA Z w w')(a:w'.grownBy w'' row)(d:∀k,row=some k->k<w.heap.size->¬Z k):zA Z w w'':=
 ⟨a.os.trans h.os,a.tape.trans h.tape,a.output.trans h.output,Nat.le_trans h.size a.size,λk b c=>
  (a.block k (Nat.lt_of_lt_of_le b h.size) (λe=>d k e.symm b c)).trans (h.block k b c)⟩
theorem zA.cell(h:zA Z w w')(d:Z p.block)(b:w.cell? p=some v):w'.cell? p=some v:=by
 have a:p.block<w.heap.size:=by
  unfold World.cell? at b;rcases Nat.lt_or_ge p.block w.heap.size with a|c
  ·exact a
  ·rw[Array.getElem?_eq_none c]at b;simp at b
 rw[World.cell?_of_block (w:=w) (h.block p.block a d)];exact b
end keeps
theorem zFw(h:Below B w w'):zA (· <B) w w':=⟨h.os,h.tape,h.output,h.size,λk _ a=>h.block k a⟩
theorem zHx(h:zA (· <B) w w')(b:B<=w.heap.size):Below B w w':=⟨h.os,h.tape,h.output,h.size,λk a=>h.block k (by omega) a⟩
theorem zd{B b:Nat}{w x d:World}(h:Below B w x)(a:zA (λc=>c≠b) x d)(g:B<=b)(f:B<=x.heap.size):Below B w d:=
 h.trans ⟨a.os,a.tape,a.output,a.size,λk e=>a.block k (by omega) (by omega)⟩
theorem zH8{W a:World}(c:Below B W a):(∀b o,b<B->a.cell? ⟨b,o,none⟩=W.cell? ⟨b,o,none⟩)/\(∀b o,b<B->a.frozen? ⟨b,o,none⟩=W.frozen? ⟨b,o,none⟩):=
 ⟨λb o h=>c.cell (p:=⟨b,o,none⟩) h,λb o h=>c.frozen (p:=⟨b,o,none⟩) h⟩
theorem lt_of_cell(a:w.cell? p=some v):p.block<w.heap.size:=by
 unfold World.cell? at a;rcases Nat.lt_or_ge p.block w.heap.size with c|b
 ·exact c
 ·rw[Array.getElem?_eq_none b]at a;simp at a
theorem zFM(h:w.cell? p=some v)(o:Obj):(w.alloc o).cell? p=some v:=by
 rw[World.cell?_alloc_lt w o p (lt_of_cell h)];exact h
theorem below_drewN'{a w:World}(h:Below B a w)(n:Nat):Below B a (w.drewN n):=⟨h.os,h.tape,h.output,h.size,h.block⟩
theorem zF(w:World)(o:Obj):Below w.heap.size w (w.alloc o):=(Below.refl _ _).alloc (Nat.le_refl _) o
theorem zD{w a b:World}(h:Below B w a)(c:Below a.heap.size a b)(d:B<=w.heap.size:=by exact Nat.le_refl _):Below B w b:=h.trans (c.mono (Nat.le_trans d h.size))
def Row(Z:zE)(w:World)(A:Option Addr)(xs:List Value):Prop:=
 xs≠[]->∃b off,A=some ⟨b,off,none⟩/\Z b/\∀j u,xs[j]? =some u->w.cell? ⟨b,off+j,none⟩=some u
section row
variable {Z Z':zE} {w w':World} {A:Option Addr} {xs:List Value}
theorem Row.keep(h:Row Z w A xs)(f:zA Z w w'):Row Z w' A xs:=λa=>by
 obtain⟨b,off,e,c,d⟩:=h a;exact⟨b,off,e,c,λj u g=>f.cell c (d j u g)⟩
theorem Row.mono(h:Row Z w A xs)(f:∀b,Z b->Z' b):Row Z' w A xs:=λa=>by
 obtain⟨b,off,e,c,d⟩:=h a;exact⟨b,off,e,f b c,d⟩
theorem Row.nil:Row Z w A []:=λh=>absurd rfl h
end row
def I64(n:Int):Prop:= -9223372036854775808<=n/\n<=9223372036854775807
structure zK (Z:zE) (w:World) (v:Value) (xs:List Int):Prop where
 is:∃A cap,v= .slice A xs.length cap/\xs.length<=cap/\cap<=9223372036854775807/\xs.length*8<=140737488355328/\Row Z w A (xs.map (.int .i64))
 fit:∀x∈xs,I64 x
structure zC where
 name:ByteArray
 kind:Int
 lo:Int
 hi:Int
def zC.cells(f:zC):List Value:=[.string f.name,.int .i64 f.kind,.int .i64 f.lo,.int .i64 f.hi]
def zC.fit(f:zC):Prop:=f.name.size<=140737488355328/\I64 f.kind/\I64 f.lo/\I64 f.hi
def zm{α:Type}(R:List Value->α->Prop)(size:Nat)(Z:zE)(w:World):List α->Option Addr->Prop
 |[],_=>True
 |k::ks,A=>∃b off cs,A=some ⟨b,off,none⟩/\Z b/\(∀j u,cs[j]? =some u->w.cell? ⟨b,off+j,none⟩=some u)/\R cs k/\zm R size Z w ks (some ⟨b,off+size,none⟩)
section seq
variable {α:Type} {R R':List Value->α->Prop} {size:Nat} {Z Z':zE} {w w':World}
theorem zm.imp(a:∀cs x,R cs x->R' cs x)(c:zA Z w w')(d:∀b,Z b->Z' b):∀{l:List α}{A:Option Addr},zm R size Z w l A->zm R' size Z' w' l A
 |[],_,_=>trivial
 | _::_,_,⟨b,off,cs,e,h1,hc,h2,h3⟩=>⟨b,off,cs,e,d b h1,λj u f=>c.cell h1 (hc j u f),a _ _ h2,zm.imp a c d h3⟩
theorem zm.at_:∀{l:List α}{A:Option Addr}(_:zm R size Z w l A){i:Nat}(hi:i<l.length),
  ∃b off cs,A=some ⟨b,off,none⟩/\Z b/\(∀j u,cs[j]? =some u->w.cell? ⟨b,off+i*size+j,none⟩=some u)/\R cs l[i]
 | _::_,_,⟨b,off,cs,e,hz,hc,h1,_⟩,0,_=>⟨b,off,cs,e,hz,by simpa using hc,h1⟩
 | _::_,_,⟨b,off,cs,e,hz,hc,_,h2⟩,i+1,hi=>by
  obtain⟨m,g,a,c,k,f,d⟩:=zm.at_ h2 (i:=i) (by simpa using hi);injection c with c;injection c with eb eo;subst eb eo;exact⟨b,off,a,e,hz,λj u h=>by have:=f j u h;rwa[show off+size+i*size+j=off+(i+1)*size+j from by rw[Nat.add_mul];omega]at this,by simpa using d⟩
end seq
structure Facts (Z:zE) (w:World) (v:Value) (xs:List zC):Prop where
 is:∃A cap,v= .slice A xs.length cap/\xs.length<=cap/\cap<=9223372036854775807/\xs.length*40<=140737488355328/\zm (λcs x=>cs=zC.cells x) 4 Z w xs A
 fit:∀x∈xs,x.fit
structure zB where
 leaf:Bool
 fact:Int
 cuts:List Int
 kids:List Int
deriving DecidableEq
def zAP(Z:zE)(w:World)(cs:List Value)(n:zB):Prop:=
 ∃vc vk,cs=[.bool n.leaf,.int .i64 n.fact,vc,vk]/\I64 n.fact/\zK Z w vc n.cuts/\zK Z w vk n.kids
def z8(Z:zE)(w:World)(v:Value)(ns:List zB):Prop:=
 ∃A cap,v= .slice A ns.length cap/\ns.length<=cap/\cap<=9223372036854775807/\ns.length*64<=140737488355328/\zm (zAP Z w) 4 Z w ns A
inductive Fm where
 |mk (op:Int) (name:ByteArray) (cmp n:Int) (kids:List Fm)
mutual
def FmR(Z:zE)(w:World):Fm->List Value->Prop
 | .mk op nm c n kids,cs=>I64 op/\nm.size<=140737488355328/\I64 c/\I64 n/\∃A cap,cs=[.int .i64 op,.string nm,.int .i64 c,.int .i64 n,.slice A kids.length cap]/\kids.length<=cap/\cap<=9223372036854775807/\kids.length*56<=140737488355328/\zi Z w kids A
def zi(Z:zE)(w:World):List Fm->Option Addr->Prop
 |[],_=>True
 |k::ks,A=>∃b off cs,A=some ⟨b,off,none⟩/\Z b/\(∀j u,cs[j]? =some u->w.cell? ⟨b,off+j,none⟩=some u)/\FmR Z w k cs/\zi Z w ks (some ⟨b,off+5,none⟩)
end
section keep
variable {Z Z':zE} {w w':World} {v:Value}
theorem zK.keep(h:zK Z w v xs)(g:zA Z w w'):zK Z w' v xs:=by
 obtain⟨⟨A,a,e,c,d,b,i⟩,f⟩:=h;exact⟨⟨A,a,e,c,d,b,i.keep g⟩,f⟩
theorem zK.mono(h:zK Z w v xs)(j:∀b,Z b->Z' b):zK Z' w v xs:=by
 obtain⟨⟨A,a,e,d,f,c,i⟩,g⟩:=h;exact⟨⟨A,a,e,d,f,c,i.mono j⟩,g⟩
theorem Facts.keep{xs:List zC}(h:Facts Z w v xs)(g:zA Z w w'):Facts Z w' v xs:=by
 obtain⟨⟨A,a,e,c,d,b,i⟩,f⟩:=h;exact⟨⟨A,a,e,c,d,b,i.imp (λ_ _ h=>h) g (λ_ h=>h)⟩,f⟩
theorem Facts.mono{xs:List zC}(h:Facts Z w v xs)(j:∀b,Z b->Z' b):Facts Z' w v xs:=by
 obtain⟨⟨A,a,e,d,f,c,i⟩,g⟩:=h;exact⟨⟨A,a,e,d,f,c,i.imp (λ_ _ h=>h) (zA.refl _ _) j⟩,g⟩
theorem zAP.keep{n:zB}(h:zAP Z w cs n)(a:zA Z w w'):zAP Z w' cs n:=by
 obtain⟨f,g,e,d,b,c⟩:=h;exact⟨f,g,e,d,b.keep a,c.keep a⟩
theorem zAP.mono{n:zB}(h:zAP Z w cs n)(a:∀b,Z b->Z' b):zAP Z' w cs n:=by
 obtain⟨g,i,e,f,c,d⟩:=h;exact⟨g,i,e,f,c.mono a,d.mono a⟩
theorem z8.keep{d:List zB}(h:z8 Z w v d)(c:zA Z w w'):z8 Z w' v d:=by
 obtain⟨A,a,e,f,g,b,i⟩:=h;exact⟨A,a,e,f,g,b,i.imp (λ_ _ h=>h.keep c) c (λ_ h=>h)⟩
theorem z8.mono{f:List zB}(h:z8 Z w v f)(d:∀b,Z b->Z' b):z8 Z' w v f:=by
 obtain⟨A,a,e,g,i,c,j⟩:=h;exact⟨A,a,e,g,i,c,j.imp (λ_ _ h=>h.mono d) (zA.refl _ _) d⟩
mutual
theorem FmR.keep(q:zA Z w w'):∀(f:Fm)(cs:List Value),FmR Z w f cs->FmR Z w' f cs
 | .mk op nm c n kids,cs,h=>by
  unfold FmR at h⊢;obtain⟨d,g,i,j,A,a,e,k,m,b,o⟩:=h;exact⟨d,g,i,j,A,a,e,k,m,b,zi.keep q kids A o⟩
theorem zi.keep(a:zA Z w w'):∀(l:List Fm)(A:Option Addr),zi Z w l A->zi Z w' l A
 |[],_,_=>by unfold zi;trivial
 |k::ks,A,h=>by
  unfold zi at h⊢;obtain⟨b,off,cs,e,c,g,d,f⟩:=h;exact⟨b,off,cs,e,c,λj u i=>a.cell c (g j u i),FmR.keep a k cs d,zi.keep a ks _ f⟩
end
mutual
theorem FmR.mono(s:∀b,Z b->Z' b):∀(f:Fm)(cs:List Value),FmR Z w f cs->FmR Z' w f cs
 | .mk op nm c n kids,cs,h=>by
  unfold FmR at h⊢;obtain⟨g,i,j,k,A,a,e,m,o,d,q⟩:=h;exact⟨g,i,j,k,A,a,e,m,o,d,zi.mono s kids A q⟩
theorem zi.mono(a:∀b,Z b->Z' b):∀(l:List Fm)(A:Option Addr),zi Z w l A->zi Z' w l A
 |[],_,_=>by unfold zi;trivial
 |k::ks,A,h=>by
  unfold zi at h⊢;obtain⟨b,off,cs,e,f,g,c,d⟩:=h;exact⟨b,off,cs,e,a b f,g,FmR.mono a k cs c,zi.mono a ks _ d⟩
end
end keep
theorem zi.at_{Z:zE}{w:World}:∀{l:List Fm}{A:Option Addr}(_:zi Z w l A){i:Nat}(hi:i<l.length),
  ∃b off cs,A=some ⟨b,off,none⟩/\Z b/\(∀j u,cs[j]? =some u->w.cell? ⟨b,off+i*5+j,none⟩=some u)/\FmR Z w l[i] cs
 |k::ks,A,h,0,_=>by
  unfold zi at h;obtain⟨b,off,cs,e,g,m,o,_⟩:=h;exact⟨b,off,cs,e,g,by simpa using m,o⟩
 |k::ks,A,h,i+1,hi=>by
  unfold zi at h;obtain⟨b,off,cs,e,g,m,_,q⟩:=h;obtain⟨v,n,a,c,t,f,d⟩:=zi.at_ q (i:=i) (by simpa using hi);injection c with c;injection c with eb eo;subst eb eo;exact⟨b,off,a,e,g,λj u s=>by have:=f j u s;rwa[show off+5+i*5+j=off+(i+1)*5+j from by omega]at this,by simpa using d⟩
theorem FmR.size{Z:zE}{f:Fm}(h:FmR Z w f cs):cs.length=5:=by
 obtain⟨op,nm,c,n,kids⟩:=f;unfold FmR at h;obtain⟨_,_,_,_,A,a,e,_⟩:=h;subst e;rfl
theorem zD5{b o:Nat}{f:zC}(a:∀j u,(zC.cells f)[j]? =some u->w.cell? ⟨b,o+j,none⟩=some u):
  w.cell? ⟨b,o,none⟩=some (.string f.name)/\w.cell? ⟨b,o+1,none⟩=some (.int .i64 f.kind)/\w.cell? ⟨b,o+2,none⟩=some (.int .i64 f.lo)/\w.cell? ⟨b,o+3,none⟩=some (.int .i64 f.hi):=
 ⟨a 0 _ rfl,a 1 _ rfl,a 2 _ rfl,a 3 _ rfl⟩
theorem zEN{b o:Nat}{v0 v1 v2 v3:Value}(a:∀j u,[v0,v1,v2,v3][j]? =some u->w.cell? ⟨b,o+j,none⟩=some u):
  w.cell? ⟨b,o,none⟩=some v0/\w.cell? ⟨b,o+1,none⟩=some v1/\w.cell? ⟨b,o+2,none⟩=some v2/\w.cell? ⟨b,o+3,none⟩=some v3:=
 ⟨a 0 _ rfl,a 1 _ rfl,a 2 _ rfl,a 3 _ rfl⟩
theorem zx{b o:Nat}{v0 v1 v2 v3 v4:Value}(a:∀j u,[v0,v1,v2,v3,v4][j]? =some u->w.cell? ⟨b,o+j,none⟩=some u):
  w.cell? ⟨b,o,none⟩=some v0/\w.cell? ⟨b,o+1,none⟩=some v1/\w.cell? ⟨b,o+2,none⟩=some v2/\w.cell? ⟨b,o+3,none⟩=some v3/\w.cell? ⟨b,o+4,none⟩=some v4:=
 ⟨a 0 _ rfl,a 1 _ rfl,a 2 _ rfl,a 3 _ rfl,a 4 _ rfl⟩
theorem zBV(h:Below B w w'){b o:Nat}(a:b<B)(c:∀j u,cs[j]? =some u->w.cell? ⟨b,o+j,none⟩=some u):
  ∀j u,cs[j]? =some u->w'.cell? ⟨b,o+j,none⟩=some u:=λj u d=>(h.cell (p:=⟨b,o+j,none⟩) a).trans (c j u d)
theorem zi.seq{Z:zE}{w:World}:∀{l:List Fm}{A:Option Addr},zi Z w l A->zm (λcs f=>FmR Z w f cs) 5 Z w l A
 |[],_,_=>trivial
 | _::_,_,h=>by
  unfold zi at h;obtain⟨b,off,cs,e,g,d,a,c⟩:=h;exact⟨b,off,cs,e,g,d,a,zi.seq c⟩
theorem zi.of_seq{Z:zE}{w:World}:∀{l:List Fm}{A:Option Addr},zm (λcs f=>FmR Z w f cs) 5 Z w l A->zi Z w l A
 |[],_,_=>by unfold zi;trivial
 | _::_,_,⟨b,off,cs,e,hz,hc,h1,h2⟩=>by
  unfold zi;exact⟨b,off,cs,e,hz,hc,h1,zi.of_seq h2⟩
def firstIdx(p:Nat->Bool):(n:Nat)->(i:Nat)->Int
 |0,_=> -1
 |n+1,i=>if p i then i else firstIdx p n (i+1)
theorem zBx{p:Nat->Bool}:∀{n i k:Nat},(∀j,i<=j->j<k->p j=false)->i<=k->k<i+n->p k=true->firstIdx p n i=k
 |0,i,k,_,h1,h2,_=>by omega
 |n+1,i,k,h,h1,h2,hp=>by
  unfold firstIdx;by_cases e:i=k
  ·subst e;rw[if_pos hp]
  ·rw[if_neg (by rw[h i (Nat.le_refl _) (by omega)];simp),zBx (λj a b=>h j (by omega) b) (by omega) (by omega) hp]
theorem zCb{p:Nat->Bool}:∀{n i:Nat},(∀j,i<=j->j<i+n->p j=false)->firstIdx p n i= -1
 |0,_,_=>rfl
 |n+1,i,h=>by
  unfold firstIdx;rw[if_neg (by rw[h i (Nat.le_refl _) (by omega)];simp),zCb (λj a b=>h j (by omega) (by omega))]
theorem zDf(p:Nat->Bool)(n i:Nat):(∃k,i<=k/\k<i+n/\p k=true/\(∀j,i<=j->j<k->p j=false)/\firstIdx p n i=k)\/((∀j,i<=j->j<i+n->p j=false)/\firstIdx p n i= -1):=by
 induction n generalizing i with
 |zero=>exact .inr ⟨λj a b=>by omega,rfl⟩
 |succ n ih=>
  unfold firstIdx;by_cases c:p i=true
  ·rw[if_pos c];exact .inl ⟨i,Nat.le_refl _,by omega,c,λj a b=>by omega,rfl⟩
  ·rw[if_neg c];rcases ih (i+1)with⟨k,h1,h2,h3,h4,h5⟩|⟨h1,h2⟩
   ·exact .inl ⟨k,by omega,by omega,h3,λj a b=>by
     by_cases e:j=i
     ·subst e;simpa using c
     ·exact h4 j (by omega) b,h5⟩
   ·exact .inr ⟨λj a b=>by
     by_cases e:j=i
     ·subst e;simpa using c
     ·exact h1 j (by omega) (by omega),h2⟩
def zIf{α:Type}(P:Program)(g:FuncId)(lb:Array Value)(R:List Value->α->Prop)(w:World)(xs:List α)(p:Nat->Bool):Prop:=
 ∀i(hi:i<xs.length) cs,R cs xs[i]->∀W,Below w.heap.size w W->Calls P g (#[.agg cs.toArray]++lb) W λe W'=>e= .returned (.bool (p i))/\Below W.heap.size W W'
theorem Row.of_own{n c:Nat}{xs:List Value}(h:w.ownsRow base e c v n xs)(i:0<c):
  ∃A a,v= .slice A n a/\n<=a/\a<=maxLen/\Row (λb=>base<=b) w A xs:=by
 have d:=h.1;rcases h.2 with⟨rfl,rfl⟩|⟨g,a,cur,rfl,hb,hg,hn,hm,hsz,htk⟩
 ·exact⟨none,0,rfl,Nat.le_refl _,by simp[maxLen],λf=>absurd (List.eq_nil_of_length_eq_zero (by simpa using d)) f⟩
 ·refine⟨some ⟨g,0,none⟩,a,rfl,hn,hm,λ_=>⟨g,0,rfl,hb,λj u k=> ?_⟩⟩;have:=h.cells (g:=g) rfl j u k;rwa[show(⟨g,0,none⟩:Addr).add j=⟨g,0+j,none⟩ from by unfold Addr.add;split<;>simp_all]at this
theorem zK.of_own(h:w.ownsRow base e 1 v n (xs.map (.int .i64)))(g:∀x∈xs,I64 x)(i:xs.length*8<=140737488355328):zK (λb=>base<=b) w v xs:=by
 have j:xs.length=n:=by have:=h.1;simpa using this
 subst j;obtain⟨A,a,e,c,d,f⟩:=Row.of_own h (by omega);exact⟨⟨A,a,e,c,by simpa[maxLen]using d,i,f⟩,g⟩
theorem zK.nil(Z:zE)(w:World):zK Z w (.slice none 0 0) []:=⟨⟨none,0,rfl,Nat.le_refl _,by omega,by simp,Row.nil⟩,by simp⟩
theorem zK.at_{Z:zE}{A:Option Addr}{a n:Nat}(h:zK Z w (.slice A n a) xs)(hi:i<xs.length):
  ∃b off,A=some ⟨b,off,none⟩/\Z b/\b<w.heap.size/\w.cell? ⟨b,off+i,none⟩=some (.int .i64 xs[i]):=by
 obtain⟨⟨j,c,e,_,_,_,f⟩,_⟩:=h;injection e with e1 e2 e3;subst e1;obtain⟨b,off,rfl,g,d⟩:=f (by intro he;rw[List.map_eq_nil_iff]at he;subst he;simp at hi);have:=d i (.int .i64 xs[i]) (by simp[hi]);exact⟨b,off,rfl,g,lt_of_cell this,this⟩
theorem zK.open_{Z:zE}(h:zK Z w v xs)(c:xs≠[]):
  ∃b off a,v= .slice (some ⟨b,off,none⟩) xs.length a/\Z b/\b<w.heap.size/\xs.length<=a/\∀j,j<xs.length->w.cell? ⟨b,off+j,none⟩=some (.int .i64 (xs.getD j 0)):=by
 obtain⟨⟨A,a,rfl,g,_,_,k⟩,_⟩:=h;obtain⟨b,off,rfl,m,i⟩:=k (by simpa using c);have f:0<xs.length:=List.length_pos_iff.2 c
 have d:∀j,j<xs.length->w.cell? ⟨b,off+j,none⟩=some (.int .i64 (xs.getD j 0)):=λj e=>by
  rw[i j (.int .i64 xs[j]) (by simp[e])];simp[List.getD,e]
 exact⟨b,off,a,rfl,m,lt_of_cell (d 0 f),g,d⟩
def One(w:World)(B:Nat)(v:Value):Prop:=∃t,w.heap[B]? =some (.cells #[v] t (0,0))
section one
variable {w w':World} {B:Nat} {v:Value}
theorem One.cell(h:One w B v):w.cell? ⟨B,0,none⟩=some v:=by obtain⟨t,h⟩:=h;exact cell_of_one h
theorem One.free(h:One w B v):w.frozen? ⟨B,0,none⟩=false:=by obtain⟨t,h⟩:=h;exact free_of_one h
theorem One.lt(h:One w B v):B<w.heap.size:=by obtain⟨t,h⟩:=h;exact lt_of_block h
theorem One.new(w:World)(v:Value)(t:TypeId):One (w.alloc (.cells #[v] t)) w.heap.size v:=⟨t,heap_alloc_new w _⟩
theorem One.of_block(h:One w B v)(a:w'.heap[B]? =w.heap[B]?):One w' B v:=by obtain⟨t,h⟩:=h;exact⟨t,a.trans h⟩
theorem One.keep{Z:zE}(h:One w B v)(a:zA Z w w')(b:Z B):One w' B v:=h.of_block (a.block B h.lt b)
theorem One.below{C:Nat}(h:One w B v)(a:Below C w w')(b:B<C):One w' B v:=h.of_block (a.block B b)
theorem One.alloc(h:One w B v)(o:Obj):One (w.alloc o) B v:=h.of_block (Below.heap_alloc _ _ _ h.lt)
theorem One.drew(h:One w B v):One w.drew B v:=h
theorem One.set_(h:One w B v)(u:Value):One (w.setCell ⟨B,0,none⟩ u) B u:=by obtain⟨t,h⟩:=h;exact⟨t,one_setCell h⟩
theorem One.far(h:One w B v)(a:B≠p.block)(u:Value):One (w.setCell p u) B v:=h.of_block (Below.heap_setCell _ _ _ _ a)
end one
theorem zE6(Z:zE)(w:World)(n:Nat):zA Z w (w.drewN n):=⟨rfl,rfl,rfl,Nat.le_refl _,λ_ _ _=>rfl⟩
theorem zK.drewN{Z:zE}(h:zK Z w v xs)(n:Nat):zK Z (w.drewN n) v xs:=h.keep (zE6 Z w n)
theorem blw(h:Below n w w':=by(repeat(first|exact Below.refl _ _ |assumption|refine below_drewN' ?_ _ |refine Below.drew ?_ |(refine Below.setCell ?_ (by first|exact Nat.le_refl _ |(simp;done)|(simp;omega)|omega) _)|(refine Below.alloc ?_ (by first|exact Nat.le_refl _ |(simp;done)|(simp;omega)|omega) _)))):Below n w w':=h
abbrev Bw(w w':World):Prop:=Below w.heap.size w w'
def zBg(c:UInt8):Bool:=decide (97<=c.toNat/\c.toNat<=122)||decide (65<=c.toNat/\c.toNat<=90)
def zGb(c:UInt8):Bool:=decide (48<=c.toNat/\c.toNat<=57)||decide (c.toNat=95)
def zGF(l:List UInt8)(i:Nat):Bool:=match l[i]? with|none=>false|some c=>zBg c||(i !=0&&zGb c)
def zJe(l:List UInt8)(k:Nat):Prop:=∀j,j<k->zGF l j=true
def zBZ(l:List UInt8):Bool:=match l with
 |[]=>false
 |c::r=>zBg c&&r.all (λc=>zBg c||zGb c)&&decide (l.length<=24)
theorem zSw(a:k<s.size):zGF s.data.toList k=decide ((97<=(s[k].toNat :Int)/\(s[k].toNat :Int)<=122)\/(65<=(s[k].toNat :Int)/\(s[k].toNat :Int)<=90)\/(0<k/\((48<=(s[k].toNat :Int)/\(s[k].toNat :Int)<=57)\/(s[k].toNat :Int)=95))):=by
 unfold zGF;have b:k<s.data.toList.length:=by simpa using a
 rw[List.getElem?_eq_getElem b];have e:s.data.toList[k]=s[k]:=by simp;rfl
 simp only[e,zBg,zGb];rw[Bool.eq_iff_iff];simp;omega
theorem zPq(l:List UInt8):zJe l 0:=λj h=>absurd h (Nat.not_lt_zero j)
theorem zPr{l:List UInt8}(h:zJe l k)(c:zGF l k=true):zJe l (k+1):=λj b=>by
 rcases Nat.lt_succ_iff_lt_or_eq.1 b with a|rfl
 ·exact h j a
 ·exact c
theorem zOq{l:List UInt8}(a:k<l.length)(h:zGF l k=false):zBZ l=false:=by
 unfold zGF at h;rw[List.getElem?_eq_getElem a]at h;simp only at h
 cases l with
 |nil=>rfl
 |cons c r=>
  unfold zBZ
  cases k with
  |zero=>simp at h;simp[h]
  |succ k=>
   (have d:k<r.length:=by simpa using a);have b:¬((zBg r[k]||zGb r[k])=true):=by simpa using h
   have:(r.all λc=>zBg c||zGb c)=false:=by
    rw[List.all_eq_false];exact⟨r[k],List.getElem_mem _,b⟩
   show(zBg c&&(r.all λc=>zBg c||zGb c)&&_)=false;rw[this];simp
theorem zRY{l:List UInt8}(h:zJe l l.length):zBZ l=(decide (l≠[])&&decide (l.length<=24)):=by
 cases l with
 |nil=>rfl
 |cons c r=>
  have a:=h 0 (by simp)
  have d:(r.all λc=>zBg c||zGb c)=true:=by
   rw[List.all_eq_true];intro x b;obtain⟨i,hi,rfl⟩:=List.getElem_of_mem b;have:=h (i+1) (by simpa using hi);unfold zGF at this;rw[List.getElem?_eq_getElem (by simpa using hi)]at this;simpa using this
  unfold zGF at a;simp at a;simp[zBZ,a];exact λ_ x b=>by have:=(List.all_eq_true.1 d) x b;simpa using this
def zCQ(f:zC):Bool:=
 ((f.kind==1&&f.lo==0&&f.hi==1)||(f.kind==2&&decide (0<=f.lo)&&decide (f.lo<=f.hi)&&decide (f.hi<=1000000)))&&zBZ f.name.data.toList
def names(ds:List zC):List ByteArray:=ds.map (·.name)
def zN(ds:List zC):Bool:=ds.all zCQ&&decide (names ds).Nodup &&decide (ds.length<=60)
def zIg(ds:List zC)(k:Nat):Prop:=(∀f∈ds.take k,zCQ f=true)/\(names (ds.take k)).Nodup
theorem zRZ(ds:List zC):zIg ds 0:=by simp[zIg,names]
theorem zAu{α:Type}{l:List α}(a:k<l.length):l.take (k+1)=l.take k++[l[k]]:=by
 rw[List.take_succ_eq_append_getElem a]
theorem zR0{ds:List zC}(g:k<ds.length)(h:zIg ds k)(i:zCQ ds[k]=true)(j:ds[k].name ∉names (ds.take k)):zIg ds (k+1):=by
 refine⟨λf c=> ?_,?_⟩
 ·rw[zAu g,List.mem_append]at c;rcases c with c|c
  ·exact h.1 f c
  ·simp at c;rw[c];exact i
 ·rw[zAu g];simp only[names,List.map_append,List.map_cons,List.map_nil];rw[List.nodup_append];refine⟨h.2,by simp,λa m b d=> ?_⟩;simp at d;subst d;exact λe=>j (e▸m)
theorem zOr{ds:List zC}(b:k<ds.length)(h:zCQ ds[k]=false\/ds[k].name ∈names (ds.take k)):zN ds=false:=by
 rcases h with h|h
 ·have:ds.all zCQ=false:=by rw[List.all_eq_false];exact⟨ds[k],List.getElem_mem _,by simp[h]⟩
  simp[zN,this]
 ·have a:¬(names ds).Nodup :=by
   intro a;(have e:ds=ds.take k++ds[k]::ds.drop (k+1):=by rw[<-List.drop_eq_getElem_cons b];exact(List.take_append_drop k ds).symm);rw[e]at a;simp only[names,List.map_append,List.map_cons]at a;rw[List.nodup_append]at a;exact a.2.2 _ h _ (List.mem_cons_self ..) rfl
  simp[zN,a]
theorem zOs{ds:List zC}(h:zIg ds ds.length):zN ds=decide (ds.length<=60):=by
 unfold zIg at h;rw[List.take_length]at h;have:ds.all zCQ=true:=List.all_eq_true.2 h.1;simp[zN,this,h.2]
theorem zUG(h:true=(!(kd==1&&lo==0&&hi==1)&& !(kd==2&&decide (0<=lo)&&decide (lo<=hi)&&decide (hi<=1000000)))):zCQ ⟨nm,kd,lo,hi⟩=false:=by
 have a:=h.symm;rw[Bool.and_eq_true,Bool.not_eq_true',Bool.not_eq_true']at a;unfold zCQ;simp only[a.1,a.2,Bool.or_self,Bool.false_and]
theorem zOL(h:zBZ nm.data.toList=false):zCQ ⟨nm,kd,lo,hi⟩=false:=by
 simp[zCQ,h]
theorem zSx(h:false=(!(kd==1&&lo==0&&hi==1)&& !(kd==2&&decide (0<=lo)&&decide (lo<=hi)&&decide (hi<=1000000))))(b:zBZ nm.data.toList=true):zCQ ⟨nm,kd,lo,hi⟩=true:=by
 have a:=h.symm;rw[Bool.and_eq_false_iff,Bool.not_eq_false',Bool.not_eq_false']at a;unfold zCQ;rw[b,Bool.and_true,Bool.or_eq_true];exact a
theorem zAh(a b:ByteArray):(a.toList==b.toList)=decide (a=b):=by
 rw[Bool.eq_iff_iff,ByteArray.toList_eq,ByteArray.toList_eq];simp only[beq_iff_eq,decide_eq_true_eq];constructor
 ·intro h;cases a;cases b;congr 1;exact Array.toList_inj.1 h
 ·rintro rfl;rfl
def zFN(ds:List zC)(nm:ByteArray)(i:Nat):Bool:=match ds[i]? with|some f=>decide (f.name=nm)|none=>false
def zA1(ds:List zC)(nm:ByteArray):Int:=firstIdx (zFN ds nm) ds.length 0
def inR(f:zC)(x:Int):Bool:=decide (f.lo<=x)&&decide (x<=f.hi)
def fits(ds:List zC)(c:List Int):Bool:=zN ds&&decide (c.length=ds.length)&&(ds.zip c).all λp=>inR p.1 p.2
def zLy(ds:List zC)(c:List Int)(k:Nat):Prop:=∀j(h1:j<ds.length)(h2:j<c.length),j<k->inR ds[j] c[j]=true
theorem zR1(ds:List zC)(c:List Int):zLy ds c 0:=λ_ _ _ h=>absurd h (Nat.not_lt_zero _)
theorem zR2{ds:List zC}{c:List Int}(h:zLy ds c k)(f:k<ds.length)(g:k<c.length)(d:inR ds[k] c[k]=true):zLy ds c (k+1):=λj a b i=>by
 by_cases e:j=k
 ·subst e;exact d
 ·exact h j a b (by omega)
theorem zOt{ds:List zC}{c:List Int}(d:zN ds=true)(a:c.length=ds.length)(h:zLy ds c ds.length):fits ds c=true:=by
 unfold fits;rw[d,a];simp only[decide_true,Bool.true_and];rw[List.all_eq_true];intro p b;obtain⟨i,hi,rfl⟩:=List.getElem_of_mem b;simp only[List.length_zip,a]at hi;rw[List.getElem_zip];exact h i (by omega) (by omega) (by omega)
theorem zUH{ds:List zC}{c:List Int}(d:k<ds.length)(e:k<c.length)(a:inR ds[k] c[k]=false):fits ds c=false:=by
 unfold fits
 have:((ds.zip c).all λp=>inR p.1 p.2)=false:=by
  rw[List.all_eq_false]
  exact⟨(ds[k],c[k]),by
   have b:(ds.zip c)[k]'(by simp;omega)=(ds[k],c[k]):=List.getElem_zip
   rw[<-b];exact List.getElem_mem _,by simp[a]⟩
 rw[this];simp
def zBj(ds:List zC):List Int:=if zN ds=true then ds.map zC.lo else[]
theorem zDl{ds:List zC}(h:zN ds=true):zBj ds=ds.map zC.lo:=if_pos h
theorem zR3{ds:List zC}(h:zN ds=false):zBj ds=[]:=if_neg (by simp[h])
namespace Fm
def op:Fm->Int| .mk o _ _ _ _=>o
def name:Fm->ByteArray| .mk _ n _ _ _=>n
def cmp:Fm->Int| .mk _ _ c _ _=>c
def num:Fm->Int| .mk _ _ _ n _=>n
def kids:Fm->List Fm| .mk _ _ _ _ k=>k
end Fm
theorem FmR.form{Z:zE}{f:Fm}(h:FmR Z w f cs):∃A a,cs=[.int .i64 f.op,.string f.name,.int .i64 f.cmp,.int .i64 f.num,.slice A f.kids.length a]:=by
 obtain⟨op,nm,c,n,b⟩:=f;unfold FmR at h;obtain⟨_,_,_,_,A,a,e,_⟩:=h;exact⟨A,a,e⟩
mutual
def zG:Fm->Nat
 | .mk _ _ _ _ ks=>1+zM ks
def zM:List Fm->Nat
 |[]=>0
 |k::r=>zG k+zM r
end
mutual
def zCq:Fm->Nat
 | .mk _ _ _ _ ks=>1+zAg ks
def zAg:List Fm->Nat
 |[]=>0
 |k::r=>max (zCq k) (zAg r)
end
theorem zBy(f:Fm):zG f=1+zM f.kids:=by cases f;rw[zG];rfl
theorem zN1(f:Fm):zCq f=1+zAg f.kids:=by cases f;rw[zCq];rfl
theorem zBk(f:Fm):0<zG f:=by rw[zBy];omega
theorem zJL(l m:List Fm):zM (l++m)=zM l+zM m:=by
 induction l with
 |nil=>simp[zM]
 |cons a r ih=>simp only[List.cons_append,zM,ih];omega
theorem zIG(l m:List Fm):zAg (l++m)=max (zAg l) (zAg m):=by
 induction l with
 |nil=>simp[zAg]
 |cons a r ih=>simp only[List.cons_append,zAg,ih];omega
theorem zBE{l:List Fm}(a:k<l.length):zM (l.take (k+1))=zM (l.take k)+zG l[k]:=by
 rw[zAu a,zJL];simp[zM]
theorem zG4{l:List Fm}(a:k<l.length):zAg (l.take (k+1))=max (zAg (l.take k)) (zCq l[k]):=by
 rw[zAu a,zIG];simp[zAg]
theorem zBH(l:List Fm)(k:Nat):zM (l.take k)<=zM l:=by
 have:=zJL (l.take k) (l.drop k);rw[List.take_append_drop]at this;omega
theorem zH9(l:List Fm)(k:Nat):zAg (l.take k)<=zAg l:=by
 have:=zIG (l.take k) (l.drop k);rw[List.take_append_drop]at this;omega
theorem zBh{l:List Fm}(a:k<l.length):zG l[k]<=zM l:=by
 have b:=zBE a;have c:=zBH l (k+1);omega
theorem zGG{f:Fm}(a:k<f.kids.length):zG f.kids[k]<zG f:=by
 have:=zBh a;rw[zBy f];omega
theorem zSy{l:List Fm}(a:k<l.length):zCq l[k]<=zAg l:=by
 have b:=zG4 a;have c:=zH9 l (k+1);omega
theorem zBi(l:List Fm):l.length<=zM l:=by
 induction l with
 |nil=>simp[zM]
 |cons a r ih=>have:=zBk a;simp only[List.length_cons,zM];omega
mutual
theorem zHa:∀f:Fm,zCq f<=zG f
 | .mk _ _ _ _ ks=>by rw[zCq,zG];have:=zG5 ks;omega
theorem zG5:∀l:List Fm,zAg l<=zM l
 |[]=>by simp[zAg]
 |k::r=>by rw[zAg,zM];have:=zHa k;have:=zG5 r;have:=zBk k;omega
end
mutual
def zw(L:Fm->Int):Fm->Int
 | .mk o nm c n ks=>if L (.mk o nm c n ks)=0 then zAK L ks else L (.mk o nm c n ks)
def zAK(L:Fm->Int):List Fm->Int
 |[]=>0
 |k::r=>if zw L k=0 then zAK L r else zw L k
end
theorem zFx(L:Fm->Int)(f:Fm):zw L f=if L f=0 then zAK L f.kids else L f:=by cases f;rw[zw];rfl
theorem zHE(L:Fm->Int)(l m:List Fm):zAK L (l++m)=if zAK L l=0 then zAK L m else zAK L l:=by
 induction l with
 |nil=>simp[zAK]
 |cons a r ih=>
  simp only[List.cons_append,zAK];by_cases h:zw L a=0
  ·simp only[h,if_true,ih]
  ·simp only[if_neg h]
theorem zJV(L:Fm->Int){l:List Fm}(a:k<l.length):zAK L (l.take (k+1))=if zAK L (l.take k)=0 then zw L l[k]else zAK L (l.take k):=by
 rw[zAu a,zHE];congr 1;simp only[zAK];split<;>simp_all
theorem zJW(L:Fm->Int){l:List Fm}(h:zAK L (l.take k)≠0):zAK L l=zAK L (l.take k):=by
 have:=zHE L (l.take k) (l.drop k);rw[List.take_append_drop,if_neg h]at this;exact this
def zDs(L:Fm->Int)(f:Fm)(k:Nat):Int:=if L f=0 then zAK L (f.kids.take k)else L f
theorem zR4(L:Fm->Int)(f:Fm):zDs L f 0=L f:=by unfold zDs;split<;>simp_all [zAK]
theorem zR5(L:Fm->Int){f:Fm}(b:k<f.kids.length)(h:zDs L f k=0):zDs L f (k+1)=zw L f.kids[k]:=by
 unfold zDs at h⊢;by_cases a:L f=0
 ·rw[if_pos a]at h⊢;rw[zJV L b,if_pos h]
 ·rw[if_neg a]at h;exact absurd h a
theorem zR6(L:Fm->Int){f:Fm}(h:zDs L f k≠0):zw L f=zDs L f k:=by
 rw[zFx];unfold zDs at h⊢;by_cases a:L f=0
 ·rw[if_pos a]at h⊢;rw[if_pos a];exact zJW L h
 ·rw[if_neg a,if_neg a]
theorem zSz(L:Fm->Int)(f:Fm):zDs L f f.kids.length=zw L f:=by
 unfold zDs;rw[zFx,List.take_length]
def zA9(f:Fm):Bool:=decide (200<zG f)||decide (20<zCq f)
def zCa(b:UInt8):Int:=
 if(97<=b.toNat/\b.toNat<=122)\/(65<=b.toNat/\b.toNat<=90)then 3
 else if 48<=b.toNat/\b.toNat<=57 then 4
 else if b.toNat=95 then 5
 else if b.toNat=32\/b.toNat=9\/b.toNat=10 then 1
 else if b.toNat=35 then 2
 else if b.toNat=34 then 6
 else if b.toNat=33 then 7
 else if b.toNat=60\/b.toNat=62 then 8
 else if b.toNat=59\/b.toNat=44\/b.toNat=46\/b.toNat=58\/b.toNat=40\/b.toNat=41\/b.toNat=91\/b.toNat=93\/b.toNat=123\/b.toNat=125\/b.toNat=61\/b.toNat=43\/b.toNat=45 then 9
 else 0
def zBl(cur:Array Int)(s:List UInt8)(c:Int):Array Int:=s.foldl (λa b=>a.setIfInBounds b.toNat c) cur
theorem zB9(s:List UInt8)(c:Int):∀a:Array Int,(zBl a s c).size =a.size:=by
 induction s with
 |nil=>intro a;rfl
 |cons b r ih=>intro a;show(zBl (a.setIfInBounds b.toNat c) r c).size =_;rw[ih];simp
theorem zOu(a:Array Int)(s:List UInt8)(b:UInt8)(c:Int):zBl a (s++[b]) c=(zBl a s c).setIfInBounds b.toNat c:=by
 simp[zBl,List.foldl_append]
def zDW:Array Int:=Array.replicate 256 0
def zGY:=zBl zDW [97,98,99,100,101,102,103,104,105,106,107,108,109,110,111,112,113,114,115,116,117,118,119,120,121,122,65,66,67,68,69,70,71,72,73,74,75,76,77,78,79,80,81,82,83,84,85,86,87,88,89,90] 3
def zHF:=zBl zGY [48,49,50,51,52,53,54,55,56,57] 4
def zHy:=zBl zHF [95] 5
def zIh:=zBl zHy [32,9,10] 1
def zJf:=zBl zIh [35] 2
def zLX:=zBl zJf [34] 6
def zMu:=zBl zLX [33] 7
def zOv:=zBl zMu [60,62] 8
def zFO:=zBl zOv [59,44,46,58,40,41,91,93,123,125,61,43,45] 9
theorem zUI:∀i:Fin 256,zFO[i.val]? =some (zCa (UInt8.ofNat i.val)):=by decide+kernel
theorem zHb:zFO.size=256:=by
 unfold zFO zOv zMu zLX zJf zIh zHy zHF zGY zDW;simp only[zB9,Array.size_replicate]
theorem zVA(b:UInt8):zFO[b.toNat]? =some (zCa b):=by
 have h:=zUI ⟨b.toNat,b.toNat_lt⟩;rwa[UInt8.ofNat_toNat]at h
def zAa(c:Array Int):Array Value:=c.map (.int .i64)
theorem zTA(c:Array Int)(i:Nat)(n:Int):(zAa c).setIfInBounds i (.int .i64 n)=zAa (c.setIfInBounds i n):=by
 unfold zAa;apply Array.ext_getElem?;intro j;simp only[Array.getElem?_setIfInBounds,Array.getElem?_map,Array.size_map];split
 ·split<;>simp
 ·rfl
theorem zEO(c:Array Int):(zAa c).size =c.size:=by simp[zAa]
theorem zTB(c:Array Int)(i:Nat):(zAa c)[i]? =c[i]?.map (.int .i64):=by simp[zAa]
theorem zN2(c:Array Int):(zAa c).all (·.oneCell')=true:=by
 unfold zAa;rw[Array.all_eq_true];intro i hi;simp[Value.oneCell']
def zH(s:ByteArray)(i:Nat):Int:=match s.data.toList[i]? with|none=>0|some b=>zCa b
theorem zD6(h:i<s.size):zH s i=zCa s[i]:=by
 unfold zH;have a:i<s.data.toList.length:=by simpa using h
 rw[List.getElem?_eq_getElem a];simp;rfl
theorem zGc(h:s.size<=i):zH s i=0:=by
 unfold zH;have a:s.data.toList.length<=i:=by simpa using h
 rw[List.getElem?_eq_none a]
def zDg(s:ByteArray)(cls:List Int)(i:Nat):Nat->Nat
 |0=>i
 |n+1=>if i<s.size/\cls.contains (zH s i)=true then zDg s cls (i+1) n else i
def zV(s:ByteArray)(cls:List Int)(i:Nat):Nat:=zDg s cls i (s.size-i)
theorem zN3{s:ByteArray}{d:List Int}{k:Nat}:∀{n i:Nat},i<=k->k<=i+n->k<=s.size->(∀j,i<=j->j<k->d.contains (zH s j)=true)->(k<s.size->k<i+n->d.contains (zH s k)=false)->zDg s d i n=k
 |0,i,h1,h2,_,_,_=>by unfold zDg;omega
 |n+1,i,h1,h2,h3,h4,h5=>by
  unfold zDg;by_cases e:i=k
  ·subst e;by_cases h:i<s.size
   ·rw[if_neg (by rw[h5 h (by omega)];simp)]
   ·rw[if_neg (λc=>h c.1)]
  ·rw[if_pos ⟨by omega,h4 i (Nat.le_refl _) (by omega)⟩,zN3 (by omega) (by omega) h3 (λj a b=>h4 j (by omega) b) (λa b=>h5 a (by omega))]
theorem zGH{b:List Int}(c:i<=k)(d:k<=s.size)(e:∀j,i<=j->j<k->b.contains (zH s j)=true)(f:k<s.size->b.contains (zH s k)=false):zV s b i=k:=
 zN3 c (by omega) d e (λa _=>f a)
theorem zKk(s:ByteArray)(c:List Int):∀n i,i<=s.size->i+n=s.size->i<=zDg s c i n/\zDg s c i n<=s.size/\(∀j,i<=j->j<zDg s c i n->c.contains (zH s j)=true)/\(zDg s c i n<s.size->c.contains (zH s (zDg s c i n))=false)
 |0,i,h,he=>by unfold zDg;exact⟨Nat.le_refl _,h,λj a b=>by omega,λd=>by omega⟩
 |n+1,i,h,he=>by
  unfold zDg;by_cases f:i<s.size/\c.contains (zH s i)=true
  ·rw[if_pos f];obtain⟨q,g,k,m⟩:=zKk s c n (i+1) (by omega) (by omega);refine⟨by omega,g,λj a b=> ?_,m⟩;by_cases e:j=i
   ·subst e;exact f.2
   ·exact k j (by omega) b
  ·rw[if_neg f];refine⟨Nat.le_refl _,h,λj a b=>by omega,λd=> ?_⟩
   cases o:c.contains (zH s i)with
   |true=>exact absurd ⟨d,o⟩ f
   |false=>rfl
theorem zBu(s:ByteArray)(a:List Int)(h:i<=s.size):i<=zV s a i/\zV s a i<=s.size/\(∀j,i<=j->j<zV s a i->a.contains (zH s j)=true)/\(zV s a i<s.size->a.contains (zH s (zV s a i))=false):=
 zKk s a _ i h (by omega)
theorem zAp{k:IntKind}{a b:Int}(h:a=b):Ending.returned (.int k a)= .returned (.int k b):=by rw[h]
theorem zAb{a b:Bool}(h:a=b):Ending.returned (.bool a)= .returned (.bool b):=by rw[h]
def gv(g:Bool)(v:Value):Value:=if g then v else undef
theorem zAq(v:Value):gv true v=v:=rfl
theorem zA7(v:Value):gv false v=undef:=rfl
theorem zVn(g:Bool)(v:Value):gv g (gv g v)=gv g v:=by cases g<;>rfl
def zR7(v:Value)(want:Bool):Bool:=match v with| .bool b=>b==want| _=>false
theorem zHc(c:o.guard=some (j,want))
  (b:(ops[j]?).bind (·.dst)=some d)(e:a.tmps[d]? =some v):Region.wanted o (yielded ops a.tmps)=zR7 v want:=by
 unfold Region.wanted yielded;simp only[c,b,Option.bind_some,e];cases v<;>simp[zR7]
inductive zFP:Value->Bool->Bool->Prop where
 |bt (b:Bool):zFP (.bool b) true b
 |bf (b:Bool):zFP (.bool b) false (!b)
 |gt (G b:Bool):zFP (gv G (.bool b)) true (G&&b)
 |gf (G b:Bool):zFP (gv G (.bool b)) false (G&& !b)
theorem zFP.eq(h:zFP v want g):zR7 v want=g:=
 match v,want,g,h with
 | _,_,_,.bt b=>by cases b<;>rfl
 | _,_,_,.bf b=>by cases b<;>rfl
 | _,_,_,.gt G b=>by cases G<;>cases b<;>rfl
 | _,_,_,.gf G b=>by cases G<;>cases b<;>rfl
inductive zBz:Bool->Prop where
 |app {α:Type} {f:α->Bool} {x:α}:zBz (f x)
section
variable {P:Program} {ops:Array Oper} {rest:List Oper} {o:Oper} {a:Act} {w:World} {Q:Exit->Act->World->Prop}
theorem zAv(c:o.guard=some (j,want))
  (f:(ops[j]?).bind (·.dst)=some d)(i:a.tmps[d]? =some u)(k:zFP u want g)
  (b:g=true->(execOp a.eval o).run P w= .ok (.value v) w)(h:wpList P ops Q rest (a.put o.dst (gv g v)) w):wpList P ops Q (o::rest) a w:=by
 have e:=(zHc (ops:=ops) (a:=a) c f i).trans k.eq;unfold wpList
 cases g with
 |true=>
  rw[if_pos e];refine .inl ?_;unfold Oper.wp;rw[b rfl];exact h
 |false=>
  rw[if_neg (by simp[e])];exact h
theorem zOw(h:a.tmps[d]? =some v):a.put (some d) v=a:=by
 cases a with
 |mk t ds=>
  simp only[Act.put];congr 1;obtain⟨b,he⟩:=Array.getElem?_eq_some_iff.1 h;apply Array.ext
  ·simp
  ·intro i c f;rw[Array.getElem_setIfInBounds];split
   ·rename_i e;subst e;exact he.symm
   ·rfl
theorem zDE(c:o.guard=some (j,want))
  (f:(ops[j]?).bind (·.dst)=some d)(i:a.tmps[d]? =some (.bool b))(g:zBz b)
  (h:∀e:Bool,Hid (e=b)->wpList P ops Q (o::rest) (a.put (some d) (.bool e)) w):wpList P ops Q (o::rest) a w:=by
 have:=h b rfl;rwa[zOw i]at this
theorem zCp(c:o.guard=some (j,want))
  (f:(ops[j]?).bind (·.dst)=some d)(i:a.tmps[d]? =some (gv G (.bool b)))(g:zBz b)
  (h:∀e:Bool,Hid (e=b)->wpList P ops Q (o::rest) (a.put (some d) (gv G (.bool e))) w):wpList P ops Q (o::rest) a w:=by
 have:=h b rfl;rwa[zOw i]at this
theorem zLY(e:o.op= .pick c x y)(d:a.eval c= .bool b):
  (execOp a.eval o).run P w= .ok (.value (if b=true then a.eval x else a.eval y)) w:=by
 simp only[execOp,e,d];cases b<;>simp[asBool]
theorem zFy(d:o.guard=none)(g:o.op= .pick c x y)(f:a.eval c= .bool b)
  (i:(if b=true then a.eval x else a.eval y)=v)(h:wpList P ops Q rest (a.put o.dst v) w):wpList P ops Q (o::rest) a w:=
 wpList_plain d λK e=>by
  unfold Oper.wp;rw[zLY g f,i];exact e _ _ h
theorem zCJ(b:o.guard=none)(e:o.op= .pick c x y)(d:a.eval c= .bool true)
  (f:a.eval x=v)(h:wpList P ops Q rest (a.put o.dst v) w):wpList P ops Q (o::rest) a w:=zFy b e d (by rw[if_pos rfl];exact f) h
theorem zCK(b:o.guard=none)(e:o.op= .pick c x y)(d:a.eval c= .bool false)
  (f:a.eval y=v)(h:wpList P ops Q rest (a.put o.dst v) w):wpList P ops Q (o::rest) a w:=zFy b e d (by rw[if_neg (by simp)];exact f) h
theorem zB5(d:o.guard=none)(f:o.op= .pick c x y)(e:a.eval c= .bool b)
  (g:a.eval x=gv b (.bool b2))(i:a.eval y= .bool false)(h:wpList P ops Q rest (a.put o.dst (.bool (b&&b2))) w):wpList P ops Q (o::rest) a w:=
 zFy d f e (by rw[g,i];cases b<;>rfl) h
theorem zBm(d:o.guard=none)(f:o.op= .pick c x y)(e:a.eval c= .bool b)
  (g:a.eval x= .bool true)(i:a.eval y=gv (!b) (.bool b2))(h:wpList P ops Q rest (a.put o.dst (.bool (b||b2))) w):wpList P ops Q (o::rest) a w:=
 zFy d f e (by rw[g,i];cases b<;>rfl) h
theorem zBR(e:o.guard=some (j,want))
  (k:(ops[j]?).bind (·.dst)=some d)(n:a.tmps[d]? =some u)(q:zFP u want g)
  (m:o.op= .pick c x y)(i:a.eval c=gv g (.bool b))
  (s:a.eval x=gv (g&&b) (.bool b2))(t:a.eval y= .bool false)(h:wpList P ops Q rest (a.put o.dst (gv g (.bool (b&&b2)))) w):wpList P ops Q (o::rest) a w:=
 zAv e k n q (λf=>by
  subst f;rw[zLY m (b:=b) (by rw[i];rfl),s,t]
  cases b<;>rfl) h
theorem zB6(e:o.guard=some (j,want))
  (k:(ops[j]?).bind (·.dst)=some d)(n:a.tmps[d]? =some u)(q:zFP u want g)
  (m:o.op= .pick c x y)(i:a.eval c=gv g (.bool b))
  (s:a.eval x= .bool true)(t:a.eval y=gv (g&& !b) (.bool b2))(h:wpList P ops Q rest (a.put o.dst (gv g (.bool (b||b2)))) w):wpList P ops Q (o::rest) a w:=
 zAv e k n q (λf=>by
  subst f;rw[zLY m (b:=b) (by rw[i];rfl),s,t]
  cases b<;>rfl) h
theorem zCL(c:o.guard=some (j,want))
  (e:(ops[j]?).bind (·.dst)=some d)(f:a.tmps[d]? =some (.bool b))(h:b=true->wpList P ops Q (o::rest) a w)(g:b=false->wpList P ops Q (o::rest) a w):wpList P ops Q (o::rest) a w:=by
 cases b with
 |true=>exact h rfl
 |false=>exact g rfl
theorem zBn(c:o.guard=some (j,want))
  (e:(ops[j]?).bind (·.dst)=some d)(f:a.tmps[d]? =some (gv G (.bool b)))(h:G=true->wpList P ops Q (o::rest) a w)(g:G=false->wpList P ops Q (o::rest) a w):wpList P ops Q (o::rest) a w:=by
 cases G with
 |true=>exact h rfl
 |false=>exact g rfl
theorem zDF{g:Nat × Bool}(b:o.guard=some g)(h:wpList P ops Q (o::rest) a w):wpList P ops Q (o::rest) a w:=h
theorem zCM(d:o.op= .pick c x y)(b:o.guard=none)(h:wpList P ops Q (o::rest) a w):wpList P ops Q (o::rest) a w:=h
theorem zBo(b:o.op= .pick c x y)(h:wpList P ops Q (o::rest) a w):wpList P ops Q (o::rest) a w:=h
theorem zCA(e:o.op= .move x)(b:o.guard=some (j,want))
  (c:(ops[j]?).bind (·.dst)=some d)(f:a.tmps[d]? =some u)(i:zFP u want g)(k:a.eval x=v)(h:wpList P ops Q rest (a.put o.dst (gv g v)) w):wpList P ops Q (o::rest) a w:=
 zAv b c f i (λ_=>by simp only[execOp,e,k];rfl) h
theorem zCN(e:o.op= .move x)(b:o.guard=some (j,want))
  (c:(ops[j]?).bind (·.dst)=some d)(f:a.tmps[d]? =some u)(i:zFP u want g)(k:a.eval x=gv g v)(h:wpList P ops Q rest (a.put o.dst (gv g v)) w):wpList P ops Q (o::rest) a w:=
 zCA e b c f i k (by rw[zVn];exact h)
theorem zCO(b:o.guard=some (j,want))
  (c:(ops[j]?).bind (·.dst)=some d)(f:a.tmps[d]? =some (.bool want))(h:wpList P ops Q (⟨o.dst,o.op,o.type,o.pos,o.after,none⟩::rest) a w):wpList P ops Q (o::rest) a w:=by
 have e:Region.wanted o (yielded ops a.tmps)=true:=by rw[zHc b c f];cases want<;>rfl
 unfold wpList at h⊢;rw[if_pos (by simp[Region.wanted])]at h;rw[if_pos e];exact h
theorem zC2(b:o.guard=some (j,want))
  (f:(ops[j]?).bind (·.dst)=some d)(c:a.tmps[d]? =some (.bool (!want))\/a.tmps[d]? =some undef)(h:wpList P ops Q rest (a.put o.dst undef) w):wpList P ops Q (o::rest) a w:=by
 have e:Region.wanted o (yielded ops a.tmps)=false:=by
  rcases c with c|c
  ·rw[zHc b f c];cases want<;>rfl
  ·rw[zHc b f c];rfl
 unfold wpList;rw[if_neg (by simp[e])];exact h
end
def Blk(w:World)(g:Nat)(t:TypeId)(cs:Array Value):Prop:=w.heap[g]? =some (.cells cs t (0,0))
section
variable {w w':World} {g:Nat} {t:TypeId} {cs:Array Value}
theorem Blk.lt(h:Blk w g t cs):g<w.heap.size:=lt_of_block h
theorem Blk.cell(h:Blk w g t cs)(i:Nat):w.cell? ⟨g,i,none⟩=cs[i]? :=cell_of_row w g i cs t (0,0) h
theorem Blk.at0{x:Value}(h:Blk w g t (x::l).toArray):w.cell? ⟨g,0,none⟩=some x:=h.cell 0
theorem Blk.at1{a x:Value}(h:Blk w g t (a::x::l).toArray):w.cell? ⟨g,1,none⟩=some x:=h.cell 1
theorem Blk.at2{a b x:Value}(h:Blk w g t (a::b::x::l).toArray):w.cell? ⟨g,2,none⟩=some x:=h.cell 2
theorem Blk.at3{a b c x:Value}(h:Blk w g t (a::b::c::x::l).toArray):w.cell? ⟨g,3,none⟩=some x:=h.cell 3
theorem Blk.at4{a b c d x:Value}(h:Blk w g t (a::b::c::d::x::l).toArray):w.cell? ⟨g,4,none⟩=some x:=h.cell 4
theorem Blk.frozen(h:Blk w g t cs)(i:Nat):w.frozen? ⟨g,i,none⟩=false:=by
 unfold Blk at h;simp[World.frozen?,h]
theorem Blk.c1(h:Blk w g t #[x0]):w.cell? ⟨g,0,none⟩=some x0/\w.frozen? ⟨g,0,none⟩=false/\g<w.heap.size:=⟨h.cell 0,h.frozen 0,h.lt⟩
theorem Blk.c2{x0 a:Value}(h:Blk w g t #[x0,a]):w.cell? ⟨g,0,none⟩=some x0/\w.frozen? ⟨g,0,none⟩=false/\w.cell? ⟨g,1,none⟩=some a/\w.frozen? ⟨g,1,none⟩=false/\g<w.heap.size:=⟨h.cell 0,h.frozen 0,h.cell 1,h.frozen 1,h.lt⟩
theorem Blk.c5{x0 a b c d:Value}(h:Blk w g t #[x0,a,b,c,d]):w.cell? ⟨g,0,none⟩=some x0/\w.frozen? ⟨g,0,none⟩=false/\w.cell? ⟨g,1,none⟩=some a/\w.frozen? ⟨g,1,none⟩=false/\w.cell? ⟨g,2,none⟩=some b/\w.frozen? ⟨g,2,none⟩=false/\w.cell? ⟨g,3,none⟩=some c/\w.frozen? ⟨g,3,none⟩=false/\w.cell? ⟨g,4,none⟩=some d/\w.frozen? ⟨g,4,none⟩=false/\g<w.heap.size:=⟨h.cell 0,h.frozen 0,h.cell 1,h.frozen 1,h.cell 2,h.frozen 2,h.cell 3,h.frozen 3,h.cell 4,h.frozen 4,h.lt⟩
theorem Blk.new(w:World)(t:TypeId)(cs:Array Value):Blk (w.alloc (.cells cs t)) w.heap.size t cs:=heap_alloc_new w _
theorem Blk.of_block(h:Blk w g t cs)(a:w'.heap[g]? =w.heap[g]?):Blk w' g t cs:=a.trans h
theorem Blk.drew(h:Blk w g t cs):Blk w.drew g t cs:=h
theorem Blk.drewN(h:Blk w g t cs)(n:Nat):Blk (w.drewN n) g t cs:=h
theorem Blk.alloc(h:Blk w g t cs)(o:Obj):Blk (w.alloc o) g t cs:=(Below.heap_alloc w o g h.lt).trans h
theorem Blk.set_(h:Blk w g t cs)(i:Nat)(u:Value):Blk (w.setCell ⟨g,i,none⟩ u) g t (cs.setIfInBounds i u):=by
 unfold Blk at h⊢;simp[World.setCell,Array.getElem?_modify,h]
theorem Blk.far(h:Blk w g t cs)(a:g≠p.block)(u:Value):Blk (w.setCell p u) g t cs:=(Below.heap_setCell w p u g a).trans h
theorem Blk.below(h:Blk w g t cs)(a:Below B w w')(b:g<B):Blk w' g t cs:=(a.block g b).trans h
theorem Blk.keep{Z:zE}(h:Blk w g t cs)(a:zA Z w w')(b:Z g):Blk w' g t cs:=(a.block g h.lt b).trans h
theorem Blk.there(h:Blk w g t cs):w.there g 0 cs.size:=λj a=>by
 rw[Nat.zero_add];exact⟨by rw[h.cell];simp[a],h.frozen j⟩
end
theorem zBK(g:Nat):∀(a:List Value)(o:Nat)(w:World)(k:Nat),k≠g->(w.setCells g o a).heap[k]? =w.heap[k]?
 |[],_,_,_,_=>rfl
 |v::r,o,w,k,h=>by
  unfold World.setCells;rw[zBK g r (o+1) _ k h,Below.heap_setCell _ _ _ _ (by simpa using h)]
theorem size_setCells(g:Nat):∀(a:List Value)(o:Nat)(w:World),(w.setCells g o a).heap.size =w.heap.size/\(w.setCells g o a).os =w.os/\(w.setCells g o a).tape =w.tape/\(w.setCells g o a).output =w.output
 |[],_,_=>⟨rfl,rfl,rfl,rfl⟩
 |v::r,o,w=>by
  unfold World.setCells;obtain⟨b,c,d,e⟩:=size_setCells g r (o+1) (w.setCell ⟨g,o,none⟩ v);exact⟨b.trans (by simp[World.setCell]),c,d,e⟩
def zCT(cs:Array Value):List Value->Nat->Array Value
 |[],_=>cs
 |v::r,o=>zCT (cs.setIfInBounds o v) r (o+1)
theorem Blk.setCells{g:Nat}{t:TypeId}:∀(a:List Value)(o:Nat)(w:World)(cs:Array Value),Blk w g t cs->Blk (w.setCells g o a) g t (zCT cs a o)
 |[],_,_,_,h=>h
 |v::r,o,w,cs,h=>by
  unfold World.setCells zCT;exact Blk.setCells r (o+1) _ _ (h.set_ o v)
theorem zE7:∀(a:List Value)(o:Nat)(cs:Array Value),o+a.length<=cs.size->∀j,(zCT cs a o)[j]? =if o<=j/\j<o+a.length then a[j-o]? else cs[j]?
 |[],o,cs,_,j=>by simp[zCT];omega
 |v::r,o,cs,h,j=>by
  simp only[List.length_cons]at h;unfold zCT;rw[zE7 r (o+1) _ (by simp;omega) j];by_cases b:o+1<=j/\j<o+1+r.length
  ·rw[if_pos b,if_pos (by simp;omega),show j-o=(j-(o+1))+1 from by omega];simp
  ·rw[if_neg b];by_cases c:j=o
   ·subst c;rw[if_pos ⟨Nat.le_refl _,by simp only[List.length_cons];omega⟩,Nat.sub_self,Array.getElem?_setIfInBounds_self_of_lt (by omega)];rfl
   ·rw[if_neg (by simp;omega),Array.getElem?_setIfInBounds_ne (by omega)]
theorem zKl{a:List Value}{cs:Array Value}(h:a.length=cs.size):zCT cs a 0=a.toArray:=by
 apply Array.ext_getElem?;intro j;rw[zE7 a 0 cs (by omega) j];by_cases b:j<a.length
 ·rw[if_pos (by omega)];simp
 ·rw[if_neg (by omega)];simp[Array.getElem?_eq_none (xs:=cs) (i:=j) (by omega)];omega
section laws
variable {P:Program} {ops:Array Oper} {rest:List Oper} {o:Oper} {a:Act} {w:World} {Q:Exit->Act->World->Prop}
theorem zZ(d:o.guard=none)(ty:TypeId)(x y:Operand)(n:o.op= .store ty x y){g:Nat}{cs cells:Array Value}(q:a.eval x= .pointer (some ⟨g,0,none⟩))(s:a.eval y= .agg cells)
  (e:Blk w g t cs)(f:cs.size=cells.size)(hi:(P.info? ty).map (·.size)=some cells.size)(j:cells.all (·.oneCell')=true)
  (h:∀c,Blk c g t cells->zA (λb=>b≠g) w c->c.heap.size=w.heap.size->wpList P ops Q rest (a.put o.dst undef) c):wpList P ops Q (o::rest) a w:=by
 refine wpList_store_mid d ty x y n g 0 cells q s (f▸e.there) hi j ?_;obtain⟨i,u,v,z⟩:=size_setCells g cells.toList 0 w;refine h _ ?_ ⟨u,v,z,Nat.le_of_eq i.symm,λk _ m=>zBK g _ 0 w k m⟩ i;have:=Blk.setCells cells.toList 0 w cs e;rwa[zKl (by simpa using f.symm),Array.toArray_toList]at this
theorem zLz(b:o.guard=none)(ty:TypeId)(x:Operand)(f:o.op= .load ty x){g:Nat}{cs:Array Value}(j:a.eval x= .pointer (some ⟨g,0,none⟩))(c:Blk w g t cs)(d:TypeDesc)
  (i:P.underlying ty=some d)(e:(match d with| .struct _ | .array _ _=>true| _=>false)=true)(hi:(P.info? ty).map (·.size)=some cs.size)
  (h:wpList P ops Q rest (a.put o.dst (.agg cs)) w):wpList P ops Q (o::rest) a w:=
 wpList_load_row b ty x f g j t cs (0,0) d c i e hi h
end laws
theorem zDG(w:World)(o p:Obj):Below w.heap.size w ((w.alloc o).alloc p):=(zF w o).alloc (by simp) p
theorem zFk{base a:Nat}{b n:Nat}{xs:List Value}(h:w.ownsRow base e b v n xs)(j:a<=base):w.ownsRow a e b v n xs:=by
 refine⟨h.1,?_⟩;rcases h.2 with k|⟨g,c,d,f,i,r⟩
 ·exact .inl k
 ·exact .inr ⟨g,c,d,f,Nat.le_trans j i,r⟩
section
variable {P:Program} {ops:Array Oper} {rest:List Oper} {o:Oper} {a:Act} {w:World} {Q:Exit->Act->World->Prop}
structure zB0 (P:Program) (e:TypeId) (size bytes:Nat):Prop where
 pos:0<size
 is:∃i z,P.info? e=some i/\i.zero=some z/\i.size=size/\i.bytes=bytes/\z.cells.size=size
theorem zBp{P:Program}{a b:Nat}(h:(P.info? e).map (λi=>(i.zero,i.size,i.bytes))=some (some z,a,b))(d:z.cells.size=a)(c:0<a):zB0 P e a b:=by
 cases hi:P.info? e with
 |none=>rw[hi]at h;cases h
 |some i=>
  rw[hi]at h;simp only[Option.map_some,Option.some.injEq,Prod.mk.injEq]at h;exact⟨c,i,z,hi,h.1,h.2.1,h.2.2,d⟩
theorem zHz{t ty e:TypeId}{a b:Nat}(I:P.underlying t=some (.slice e))(E:zB0 P e a b){xs:List Value}(h:w.ownsRow base e a v n xs)
  {g m c:Nat}(G:news.length=m*a)(F:∀j u,news[j]? =some u->w.cell? ⟨g,off+j,none⟩=some u)(y:∀u∈news,u.oneCell'=true)(o:n+m<=maxLen)(D:(n+m)*b<=140737488355328)(d:base<=w.heap.size):
  ∃f w',(Builtin.append_ #[t,t] ty #[v,.slice (some ⟨g,off,none⟩) m c]).run P w= .ok f w'/\w'.ownsRow base e a f (n+m) (xs++news)/\w.grownBy w' v.ownBlock/\(f.ownBlock=v.ownBlock\/f.ownBlock=some w.heap.size):=by
 obtain⟨H,i,z,hi,K,s,q,x⟩:=E
 obtain⟨f,w',k,A,B,_,C⟩:=run_append_own_at (P:=P) w base t ty e i z a b I hi K s q x H v n xs h ⟨g,off,none⟩ m c news G
  (λj u J=>by rw[show(⟨g,off,none⟩:Addr).add j=⟨g,off+j,none⟩ from by unfold Addr.add;split<;>simp_all];exact F j u J) y o D d
 exact⟨f,w',k,A,B,C⟩
theorem z6(z:o.guard=none)(s x:Operand)(t:TypeId)(J:o.op= .call {callee:= .builtin .append,args:=#[s,x],argTypes:=#[t,t]})
  {b d:Nat}(M:P.underlying t=some (.slice e))(E:zB0 P e b d){xs:List Value}(L:a.eval s=v)(k:w.ownsRow base e b v n xs)
  {g m c off:Nat}(N:a.eval x= .slice (some ⟨g,off,none⟩) m c)(I:news.length=m*b)(H:∀j u,news[j]? =some u->w.cell? ⟨g,off+j,none⟩=some u)(A:∀u∈news,u.oneCell'=true)(y:n+m<=maxLen)(G:(n+m)*d<=140737488355328)(f:base<=w.heap.size)
  (h:∀i w',w'.ownsRow base e b i (n+m) (xs++news)->w.grownBy w' v.ownBlock->(i.ownBlock=v.ownBlock\/i.ownBlock=some w.heap.size)->wpList P ops Q rest (a.put o.dst i) w'):wpList P ops Q (o::rest) a w:=
 wpList_plain z λK F=>by
  obtain⟨i,w',q,B,C,D⟩:=zHz (ty:=o.type) M E k I H A y G f;unfold Oper.wp execOp;simp only[J,resolve,invoke,builtin,Sem.run_bind,Sem.run_pure,Result.andThen_ok,List.map_toArray,List.map_cons,List.map_nil,L,N];rw[q];exact F _ _ (h i w' B C D)
end
theorem ze{a w w':World}{c n:Nat}{xs:List Value}(h:Below B a w)(b:w.ownsRow base e c v n xs)(g:w.grownBy w' v.ownBlock)(d:B<=w.heap.size)(f:B<=base):Below B a w':=
 h.grown g d (λk i=>Nat.le_trans f (b.lt k i).1)
theorem one_cell{g:Nat}(h:w.cell? ⟨g,0,none⟩=some u):∀j x,[u][j]? =some x->w.cell? ⟨g,0+j,none⟩=some x:=λj x a=>by
 cases j with
 |zero=>simp at a;subst a;simpa using h
 |succ j=>simp at a
section kv
variable {κ:Type} [DecidableEq κ]
def zg:List (κ × Value)->κ->Option Value
 |[],_=>none
 |p::r,x=>if x=p.1 then some p.2 else zg r x
def zBa:List (κ × Value)->κ->Nat->Option (Nat × Value)
 |[],_,_=>none
 |p::r,x,i=>if x=p.1 then some (i,p.2)else zBa r x (i+1)
def zAU:List (κ × Value)->κ->Value->List (κ × Value)
 |[],x,v=>[(x,v)]
 |p::r,x,v=>if x=p.1 then(p.1,v)::r else p::zAU r x v
theorem zR8(l:List (κ × Value))(x:κ):∀i,(zBa l x i).map (·.2)=zg l x:=by
 induction l with
 |nil=>intro i;rfl
 |cons p r ih=>
  intro i;unfold zBa zg;split
  ·rfl
  ·exact ih (i+1)
theorem zMv(l:List (κ × Value))(x:κ)(v:Value):zg (zAU l x v) x=some v:=by
 induction l with
 |nil=>simp[zAU,zg]
 |cons p r ih=>
  unfold zAU;split
  ·rename_i h;simp[zg,h]
  ·rename_i h;simp[zg,h,ih]
theorem zHd{x y:κ}(h:y≠x)(l:List (κ × Value))(v:Value):zg (zAU l x v) y=zg l y:=by
 induction l with
 |nil=>simp[zAU,zg,h]
 |cons p r ih=>
  unfold zAU;split
  ·rename_i e;subst e;simp[zg,h]
  ·simp[zg,ih]
end kv
structure zEd (P:Program) (k:TypeId) {κ:Type} [DecidableEq κ] (enc:κ->Value):Prop where
 check:∀(w:World)(em:Bool)(x:κ),(Instr.checkKey em 10000 k (enc x)).run P w= .ok () w
 find:∀(w:World)(x:κ)(es:List MapEntry)(kv:List (κ × Value)),es.map (λe=>(e.key,e.val))=kv.map (λp=>(enc p.1,p.2))->
  (Instr.findKey k (enc x) es).run P w= .ok (zBa kv x 0) w
 stays:∀(w:World)(x:κ),(Instr.keyThatStays (enc x) (enc x)).run P w= .ok (enc x) w
def zW{κ:Type}(enc:κ->Value)(w:World)(b:Nat)(kv:List (κ × Value)):Prop:=
 ∃es clock,w.heap[b]? =some (.map es clock)/\es.toList.map (λe=>(e.key,e.val))=kv.map (λp=>(enc p.1,p.2))
section laws
variable {P:Program} {κ:Type} [DecidableEq κ] {enc:κ->Value} {t k e:TypeId} {w:World} {b:Nat} {kv:List (κ × Value)}
omit [DecidableEq κ] in
theorem zW.lt(h:zW enc w b kv):b<w.heap.size:=by
 obtain⟨d,a,c,_⟩:=h;exact(Array.getElem?_eq_some_iff.1 c).1
omit [DecidableEq κ] in
theorem zW.made(w:World)(enc:κ->Value):zW enc (w.alloc (.map #[] 0)) w.heap.size []:=
 ⟨#[],0,heap_alloc_new w _,rfl⟩
omit [DecidableEq κ] in
theorem zW.of_block(h:zW enc w b kv)(f:w'.heap[b]? =w.heap[b]?):zW enc w' b kv:=by
 obtain⟨c,a,d,e⟩:=h;exact⟨c,a,f.trans d,e⟩
theorem zW.look(h:zW enc w b kv)(K:zEd P k enc)(i:P.underlying t=some (.map k e))(n:(zeroValue e).run P w= .ok z w)(x:κ)(c:Bool):
  (Instr.lookup t (.map (some b)) (enc x) c).run P w= .ok (if c then .tuple #[(zg kv x).getD z,.bool (zg kv x).isSome]else(zg kv x).getD z) w:=by
 obtain⟨j,d,f,m⟩:=h;have a:=K.find w x j.toList kv m;rw[<-zR8 kv x 0]
 cases g:zBa kv x 0 with
 |none=>rw[g]at a;simp[Instr.lookup,run_underlying i,MapKept.run_getObj_map f,K.check w _ x,a,n,Result.andThen]
 |some r=>rw[g]at a;simp[Instr.lookup,run_underlying i,MapKept.run_getObj_map f,K.check w _ x,a,Result.andThen]
theorem zMA(a:List MapEntry)(c:List (κ × Value))(d:a.map (λe=>(e.key,e.val))=c.map (λp=>(enc p.1,p.2)))(x:κ)(v:Value):
  ∀i j(u:Value),zBa c x i=some (j,u)->i<=j/\(a[j-i]?).map (·.key)=some (enc x)/\(a.modify (j-i) λe=>{e with key:=enc x,val:=v}).map (λe=>(e.key,e.val))=(zAU c x v).map (λp=>(enc p.1,p.2)):=by
 induction c generalizing a with
 |nil=>intro i j u h;simp[zBa]at h
 |cons p r ih=>
  intro i j u h
  cases a with
  |nil=>simp at d
  |cons e0 a=>
   simp only[List.map_cons,List.cons.injEq]at d;obtain⟨g,k⟩:=d;unfold zBa at h;unfold zAU;by_cases b:x=p.1
   ·rw[if_pos b]at h⊢;injection h with h;injection h with hj hu;subst hj;(have o:e0.key=enc p.1:=by injection g);refine⟨Nat.le_refl _,?_,?_⟩
    ·simp[o,b]
    ·simp[b,k]
   ·rw[if_neg b]at h⊢;obtain⟨q,m,n⟩:=ih a k (i+1) j u h;(have f:j-i=(j-(i+1))+1:=by omega);refine⟨by omega,?_,?_⟩
    ·rw[f];simpa using m
    ·rw[f,List.modify_succ_cons,List.map_cons,List.map_cons,n,g]
theorem zMB{x:κ}(v:Value):∀{kv:List (κ × Value)}{i:Nat},zBa kv x i=none->zAU kv x v=kv++[(x,v)]
 |[],_,_=>rfl
 |p::r,i,h=>by
  unfold zBa at h;unfold zAU;split at h
  ·cases h
  ·rename_i hx;rw[if_neg hx,zMB v h];rfl
theorem zW.store(h:zW enc w b kv)(K:zEd P k enc)(I:P.underlying t=some (.map k e))(x:κ)(v:Value):
  ∃n,(Instr.mapUpdate t (.map (some b)) (enc x) v).run P w= .ok () n/\zW enc n b (zAU kv x v)/\zA (λc=>c≠b) w n/\n.heap.size=w.heap.size/\(∀a,n.cell? a=w.cell? a)/\(∀a,n.frozen? a=w.frozen? a):=by
 obtain⟨o,g,m,F⟩:=h;have s:=K.find w x o.toList kv F;have L:=(Array.getElem?_eq_some_iff.1 m).1
 have q:∀f d,(∀a,(ChangeMaps.setBlock w b (.map f d)).cell? a=w.cell? a)/\(∀a,(ChangeMaps.setBlock w b (.map f d)).frozen? a=w.frozen? a)/\zA (λc=>c≠b) w (ChangeMaps.setBlock w b (.map f d))/\(ChangeMaps.setBlock w b (.map f d)).heap.size =w.heap.size/\(ChangeMaps.setBlock w b (.map f d)).heap[b]? =some (.map f d):=by
  intro f d
  have y:∀c,(ChangeMaps.setBlock w b (.map f d)).heap[c]? =if b=c then some (.map f d)else w.heap[c]? :=by
   intro c;simp only[ChangeMaps.setBlock,Array.getElem?_setIfInBounds];split
   ·rename_i i;subst i;simp
   ·rfl
  refine⟨λa=> ?_,λa=> ?_,⟨rfl,rfl,rfl,by simp[ChangeMaps.setBlock],λc _ i=> ?_⟩,by simp[ChangeMaps.setBlock],?_⟩
  ·unfold World.cell?;rw[y];by_cases i:b=a.block
   ·rw[if_pos i,<-i,m]
   ·rw[if_neg i]
  ·unfold World.frozen?;rw[y];by_cases i:b=a.block
   ·rw[if_pos i,<-i,m]
   ·rw[if_neg i]
  ·rw[y,if_neg (λe=>i e.symm)]
  ·rw[y,if_pos rfl]
 cases z:zBa kv x 0 with
 |none=>
  rw[z]at s;obtain⟨A,B,C,D,E⟩:=q (o.push {key:=enc x,val:=v,born:=g}) (g+1);refine⟨_,by simp[Instr.mapUpdate,run_underlying I,MapKept.run_getObj_map m,K.check w _ x,s,MapKept.run_setObj_map _ m,Result.andThen];rfl,⟨_,_,E,?_⟩,C,D,A,B⟩;rw[zMB v z];simp[F]
 |some r=>
  obtain⟨j,u⟩:=r;rw[z]at s;obtain⟨_,G,H⟩:=zMA o.toList kv F x v 0 j u z;simp only[Nat.sub_zero]at G H;have J:o[j]?.map (·.key)=some (enc x):=by simpa using G
  obtain⟨A,B,C,D,E⟩:=q (o.modify j λe=>{e with key:=enc x,val:=v}) g;refine⟨_,by simp[Instr.mapUpdate,run_underlying I,MapKept.run_getObj_map m,K.check w _ x,s,J,K.stays,MapKept.run_setObj_map _ m,Result.andThen];rfl,⟨_,_,E,?_⟩,C,D,A,B⟩;simpa using H
theorem zCB(z:o.guard=none)(m x y:Operand)(i:o.op=Op.mapUpdate t m x y)
  (K:zEd P k enc)(B:P.underlying t=some (.map k e))(A:a.eval m= .map (some b))(h:zW enc w b kv)(key:κ)(C:a.eval x=enc key)
  (v:∀d,zW enc d b (zAU kv key (a.eval y))->zA (λc=>c≠b) w d->d.heap.size=w.heap.size->(∀a,d.cell? a=w.cell? a)->(∀a,d.frozen? a=w.frozen? a)->wpList P ops Q rest (a.put o.dst undef) d):
  wpList P ops Q (o::rest) a w:=by
 refine wpList_plain z λD g=> ?_
 obtain⟨d,f,j,n,q,s,u⟩:=h.store K B key (a.eval y);unfold Oper.wp;simp[execOp,i,A,C,f,Result.andThen];exact g _ _ (v d j n q s u)
theorem zIH(j:o.guard=none)(m x:Operand)(c:Bool)(g:o.op=Op.lookup t m x c)
  (K:zEd P k enc)(q:P.underlying t=some (.map k e))(y:(zeroValue e).run P w= .ok z w)(n:a.eval m= .map (some b))(h:zW enc w b kv)(key:κ)(u:a.eval x=enc key)
  (s:(if c then .tuple #[(zg kv key).getD z,.bool (zg kv key).isSome]else(zg kv key).getD z)=v)(i:wpList P ops Q rest (a.put o.dst v) w):
  wpList P ops Q (o::rest) a w:=by
 refine wpList_plain j λA f=> ?_
 have d:=h.look K q y key c;rw[s]at d;unfold Oper.wp;simp[execOp,g,n,u,d,Result.andThen];exact f _ _ i
end laws
section kinds
variable {P:Program} {k:TypeId}
theorem zOx{κ:Type}[DecidableEq κ]{enc:κ->Value}{d:TypeDesc}(b:∀x y:κ,Instr.sameNow d (enc x) (enc y)=some (decide (x=y)))(x:κ):
  ∀(a:List MapEntry)(kv:List (κ × Value))(i:Nat),a.map (λe=>(e.key,e.val))=kv.map (λp=>(enc p.1,p.2))->Instr.findNow d (enc x) a i=some (zBa kv x i)
 |[],[],_,_=>rfl
 |[],_::_,_,h=>by simp at h
 | _::_,[],_,h=>by simp at h
 |e::a,p::kv,i,h=>by
  simp only[List.map_cons,List.cons.injEq,Prod.mk.injEq]at h;obtain⟨⟨f,g⟩,j⟩:=h;unfold Instr.findNow zBa;rw[f,b];by_cases c:x=p.1
  ·simp[c,g]
  ·simp[c,zOx b x a kv (i+1) j]
theorem zN4{κ:Type}[DecidableEq κ]{enc:κ->Value}{d:TypeDesc}(c:P.underlying k=some d)(e:∀x y:κ,Instr.sameNow d (enc x) (enc y)=some (decide (x=y)))
  (b:∀(w:World)(a:Bool)(x:κ),(Instr.checkKey a 10000 k (enc x)).run P w= .ok () w)(f:∀x:κ,Instr.sameBits 10000 (enc x) (enc x)=true):zEd P k enc where
 check:=b
 find w x es kv h:=by
  simp[Instr.findKey,run_underlying c,zOx e x es kv 0 h]
 stays w x:=by simp[Instr.keyThatStays,f]
def encS(s:ByteArray):Value:= .string s
def encI(n:Int):Value:= .int .i64 n
def zE0(p:Int × Int):Value:= .agg #[.int .i64 p.1,.int .i64 p.2]
theorem zBb(a:P.underlying k=some .string):zEd P k encS:=
 zN4 a (λx y=>by
  simp only[encS,Instr.sameNow];congr 1;rw[Bool.eq_iff_iff,MapKept.bytes_beq];simp) (λw b x=>MapKept.run_checkKey a (by simp[encS,MapKept.IsKey]) b 9999) (λx=>by
  simp only[encS,Instr.sameBits];exact(MapKept.bytes_beq x x).2 rfl)
theorem zGI(a:P.underlying k=some (.int .i64)):zEd P k encI:=
 zN4 a (λx y=>by simp only[encI,Instr.sameNow];simp;rw[Bool.eq_iff_iff];simp) (λw b x=>MapKept.run_checkKey a (by simp[encI,MapKept.IsKey]) b 9999) (λx=>by simp[encI,Instr.sameBits])
end kinds
end Go.Proofs.YthpocbeoanipbaaGreatDoor
