/- Lemmas. -/
import Derived.Test.YtommaegelgilnaaGreatDoorM1
import Derived.Deep.Draws
set_option linter.all false
namespace Go.Proofs.YtommaegelgilnaaGreatDoor
open Go.RowKit
variable {A:Option Addr}{B b base cap n o:Nat}{cs:List Value}{e:TypeId}{p:Addr}{v:Value}{w w':World}{xs:List Int}
theorem hid{p:Prop}(h:p):Hid p:=h
abbrev zD:=Nat->Prop
structure zA (Z:zD) (w w':World):Prop where
 os:w'.os=w.os
 tape:w'.tape=w.tape
 output:w'.output=w.output
 size:w.heap.size<=w'.heap.size
 block:∀k,k<w.heap.size->Z k->w'.heap[k]? =w.heap[k]?
section keeps
variable {Z Z':zD} {w w' w'':World}
theorem zA.refl(Z:zD)(w:World):zA Z w w:=⟨rfl,rfl,rfl,Nat.le_refl _,λ_ _ _=>rfl⟩
theorem zA.trans(h:zA Z w w')(k:zA Z w' w''):zA Z w w'':=
 ⟨k.os.trans h.os,k.tape.trans h.tape,k.output.trans h.output,Nat.le_trans h.size k.size,λi a b=>(k.block i (Nat.lt_of_lt_of_le a h.size) b).trans (h.block i a b)⟩
theorem zA.mono(h:zA Z w w')(d:∀b,b<w.heap.size->Z' b->Z b):zA Z' w w':=⟨h.os,h.tape,h.output,h.size,λk c a=>h.block k c (d k c a)⟩
theorem zA.of_below(h:Below w.heap.size w w'):zA Z w w':=⟨h.os,h.tape,h.output,h.size,λk a _=>h.block k a⟩
theorem zA.of_below_lt(h:Below B w w')(d:∀b,b<w.heap.size->Z b->b<B):zA Z w w':=⟨h.os,h.tape,h.output,h.size,λk c a=>h.block k (d k c a)⟩
theorem zA.below(h:zA (λ_=>True) w w'):Below w.heap.size w w':=⟨h.os,h.tape,h.output,h.size,λk a=>h.block k a trivial⟩
theorem zA.drew(h:zA Z w w'):zA Z w w'.drew:=⟨h.os,h.tape,h.output,h.size,h.block⟩
theorem zA.drewN(h:zA Z w w')(n:Nat):zA Z w (w'.drewN n):=⟨h.os,h.tape,h.output,h.size,h.block⟩
theorem zA.alloc(h:zA Z w w')(o:Obj):zA Z w (w'.alloc o):=
 ⟨h.os,h.tape,h.output,Nat.le_trans h.size (by simp),λk a b=>(Below.heap_alloc _ _ _ (Nat.lt_of_lt_of_le a h.size)).trans (h.block k a b)⟩
theorem zA.setCell(h:zA Z w w')(c:p.block<w.heap.size->¬Z p.block)(u:Value):zA Z w (w'.setCell p u):=
 ⟨h.os,h.tape,h.output,Nat.le_trans h.size (by simp[World.setCell]),λk a b=>(Below.heap_setCell _ _ _ _ (λe=>by subst e;exact c a b)).trans (h.block k a b)⟩
theorem zA.grown{row:Option Nat}(h:zA Z w w')(a:w'.grownBy w'' row)(d:∀k,row=some k->k<w.heap.size->¬Z k):zA Z w w'':=
 ⟨a.os.trans h.os,a.tape.trans h.tape,a.output.trans h.output,Nat.le_trans h.size a.size,λk b c=>
  (a.block k (Nat.lt_of_lt_of_le b h.size) (λe=>d k e.symm b c)).trans (h.block k b c)⟩
theorem zA.cell(h:zA Z w w')(d:Z p.block)(b:w.cell? p=some v):w'.cell? p=some v:=by
 have a:p.block<w.heap.size:=by
  unfold World.cell? at b;rcases Nat.lt_or_ge p.block w.heap.size with a|c
  ·exact a
  ·rw[Array.getElem?_eq_none c]at b;simp at b
 rw[World.cell?_of_block (w:=w) (h.block p.block a d)];exact b
end keeps
theorem zFb(h:Below B w w'):zA (· <B) w w':=⟨h.os,h.tape,h.output,h.size,λk _ a=>h.block k a⟩
theorem z8(h:zA (· <B) w w')(b:B<=w.heap.size):Below B w w':=⟨h.os,h.tape,h.output,h.size,λk a=>h.block k (by omega) a⟩
theorem zAG{w x d:World}(h:Below B w x)(a:zA (λc=>c≠b) x d)(g:B<=b)(f:B<=x.heap.size):Below B w d:=
 h.trans ⟨a.os,a.tape,a.output,a.size,λk e=>a.block k (by omega) (by omega)⟩
theorem zHB{W a:World}(c:Below B W a):(∀b o,b<B->a.cell? ⟨b,o,none⟩=W.cell? ⟨b,o,none⟩)/\(∀b o,b<B->a.frozen? ⟨b,o,none⟩=W.frozen? ⟨b,o,none⟩):=
 ⟨λb o h=>c.cell (p:=⟨b,o,none⟩) h,λb o h=>c.frozen (p:=⟨b,o,none⟩) h⟩
theorem lt_of_cell(a:w.cell? p=some v):p.block<w.heap.size:=by
 unfold World.cell? at a;rcases Nat.lt_or_ge p.block w.heap.size with c|b
 ·exact c
 ·rw[Array.getElem?_eq_none b]at a;simp at a
theorem zD5(h:w.cell? p=some v)(o:Obj):(w.alloc o).cell? p=some v:=by
 rw[World.cell?_alloc_lt w o p (lt_of_cell h)];exact h
theorem below_drewN'{a w:World}(h:Below B a w)(n:Nat):Below B a (w.drewN n):=⟨h.os,h.tape,h.output,h.size,h.block⟩
theorem zG(w:World)(o:Obj):Below w.heap.size w (w.alloc o):=(Below.refl _ _).alloc (Nat.le_refl _) o
theorem zC{w a b:World}(h:Below B w a)(c:Below a.heap.size a b)(d:B<=w.heap.size:=by exact Nat.le_refl _):Below B w b:=h.trans (c.mono (Nat.le_trans d h.size))
def Row(Z:zD)(w:World)(A:Option Addr)(xs:List Value):Prop:=
 xs≠[]->∃b off,A=some ⟨b,off,none⟩/\Z b/\∀j u,xs[j]? =some u->w.cell? ⟨b,off+j,none⟩=some u
section row
variable {Z Z':zD} {w w':World} {A:Option Addr} {xs:List Value}
theorem Row.keep(h:Row Z w A xs)(g:zA Z w w'):Row Z w' A xs:=λa=>by
 obtain⟨b,c,e,d,f⟩:=h a;exact⟨b,c,e,d,λj u i=>g.cell d (f j u i)⟩
theorem Row.mono(h:Row Z w A xs)(g:∀b,Z b->Z' b):Row Z' w A xs:=λa=>by
 obtain⟨b,c,e,d,f⟩:=h a;exact⟨b,c,e,g b d,f⟩
theorem Row.nil:Row Z w A []:=λh=>absurd rfl h
end row
def I64(n:Int):Prop:= -9223372036854775808<=n/\n<=9223372036854775807
structure zO (Z:zD) (w:World) (v:Value) (xs:List Int):Prop where
 is:∃A cap,v= .slice A xs.length cap/\xs.length<=cap/\cap<=9223372036854775807/\xs.length*8<=140737488355328/\Row Z w A (xs.map (.int .i64))
 fit:∀x∈xs,I64 x
structure zE where
 name:ByteArray
 kind:Int
 lo:Int
 hi:Int
def zE.cells(f:zE):List Value:=[.string f.name,.int .i64 f.kind,.int .i64 f.lo,.int .i64 f.hi]
def zE.fit(f:zE):Prop:=f.name.size<=140737488355328/\I64 f.kind/\I64 f.lo/\I64 f.hi
def zAW{α:Type}(R:List Value->α->Prop)(size:Nat)(Z:zD)(w:World):List α->Option Addr->Prop
 |[],_=>True
 |k::ks,A=>∃b off cs,A=some ⟨b,off,none⟩/\Z b/\(∀j u,cs[j]? =some u->w.cell? ⟨b,off+j,none⟩=some u)/\R cs k/\zAW R size Z w ks (some ⟨b,off+size,none⟩)
section seq
variable {α:Type} {R R':List Value->α->Prop} {size:Nat} {Z Z':zD} {w w':World}
theorem zAW.imp(a:∀cs x,R cs x->R' cs x)(c:zA Z w w')(d:∀b,Z b->Z' b):∀{l:List α}{A:Option Addr},zAW R size Z w l A->zAW R' size Z' w' l A
 |[],_,_=>trivial
 | _::_,_,⟨b,off,cs,e,h1,hc,h2,h3⟩=>⟨b,off,cs,e,d b h1,λj u f=>c.cell h1 (hc j u f),a _ _ h2,zAW.imp a c d h3⟩
theorem zAW.at_:∀{l:List α}{A:Option Addr}(_:zAW R size Z w l A){i:Nat}(hi:i<l.length),
  ∃b a cs,A=some ⟨b,a,none⟩/\Z b/\(∀j u,cs[j]? =some u->w.cell? ⟨b,a+i*size+j,none⟩=some u)/\R cs l[i]
 | _::_,_,⟨b,a,cs,e,hz,hc,h1,_⟩,0,_=>⟨b,a,cs,e,hz,by simpa using hc,h1⟩
 | _::_,_,⟨b,a,cs,e,hz,hc,_,h2⟩,i+1,hi=>by
  obtain⟨n,h,c,d,m,g,f⟩:=zAW.at_ h2 (i:=i) (by simpa using hi);injection d with d;injection d with eb eo;subst eb eo;exact⟨b,a,c,e,hz,λj u k=>by have:=g j u k;rwa[show a+size+i*size+j=a+(i+1)*size+j from by rw[Nat.add_mul];omega]at this,by simpa using f⟩
end seq
structure Facts (Z:zD) (w:World) (v:Value) (xs:List zE):Prop where
 is:∃A cap,v= .slice A xs.length cap/\xs.length<=cap/\cap<=9223372036854775807/\xs.length*40<=140737488355328/\zAW (λcs x=>cs=zE.cells x) 4 Z w xs A
 fit:∀x∈xs,x.fit
structure zB where
 leaf:Bool
 fact:Int
 cuts:List Int
 kids:List Int
deriving DecidableEq
def zAY(Z:zD)(w:World)(cs:List Value)(n:zB):Prop:=
 ∃vc vk,cs=[.bool n.leaf,.int .i64 n.fact,vc,vk]/\I64 n.fact/\zO Z w vc n.cuts/\zO Z w vk n.kids
def zK(Z:zD)(w:World)(v:Value)(ns:List zB):Prop:=
 ∃A cap,v= .slice A ns.length cap/\ns.length<=cap/\cap<=9223372036854775807/\ns.length*64<=140737488355328/\zAW (zAY Z w) 4 Z w ns A
inductive Fm where
 |mk (op:Int) (name:ByteArray) (cmp n:Int) (kids:List Fm)
mutual
def FmR(Z:zD)(w:World):Fm->List Value->Prop
 | .mk op nm c n kids,cs=>I64 op/\nm.size<=140737488355328/\I64 c/\I64 n/\∃A cap,cs=[.int .i64 op,.string nm,.int .i64 c,.int .i64 n,.slice A kids.length cap]/\kids.length<=cap/\cap<=9223372036854775807/\kids.length*56<=140737488355328/\zAD Z w kids A
def zAD(Z:zD)(w:World):List Fm->Option Addr->Prop
 |[],_=>True
 |k::ks,A=>∃b off cs,A=some ⟨b,off,none⟩/\Z b/\(∀j u,cs[j]? =some u->w.cell? ⟨b,off+j,none⟩=some u)/\FmR Z w k cs/\zAD Z w ks (some ⟨b,off+5,none⟩)
end
section keep
variable {Z Z':zD} {w w':World} {v:Value}
theorem zO.keep(h:zO Z w v xs)(f:zA Z w w'):zO Z w' v xs:=by
 obtain⟨⟨A,cap,e,b,c,a,g⟩,d⟩:=h;exact⟨⟨A,cap,e,b,c,a,g.keep f⟩,d⟩
theorem zO.mono(h:zO Z w v xs)(i:∀b,Z b->Z' b):zO Z' w v xs:=by
 obtain⟨⟨A,cap,e,c,d,a,g⟩,f⟩:=h;exact⟨⟨A,cap,e,c,d,a,g.mono i⟩,f⟩
theorem Facts.keep{xs:List zE}(h:Facts Z w v xs)(f:zA Z w w'):Facts Z w' v xs:=by
 obtain⟨⟨A,cap,e,b,c,a,g⟩,d⟩:=h;exact⟨⟨A,cap,e,b,c,a,g.imp (λ_ _ h=>h) f (λ_ h=>h)⟩,d⟩
theorem Facts.mono{xs:List zE}(h:Facts Z w v xs)(i:∀b,Z b->Z' b):Facts Z' w v xs:=by
 obtain⟨⟨A,cap,e,c,d,a,g⟩,f⟩:=h;exact⟨⟨A,cap,e,c,d,a,g.imp (λ_ _ h=>h) (zA.refl _ _) i⟩,f⟩
theorem zAY.keep{n:zB}(h:zAY Z w cs n)(a:zA Z w w'):zAY Z w' cs n:=by
 obtain⟨f,g,e,d,b,c⟩:=h;exact⟨f,g,e,d,b.keep a,c.keep a⟩
theorem zAY.mono{n:zB}(h:zAY Z w cs n)(a:∀b,Z b->Z' b):zAY Z' w cs n:=by
 obtain⟨g,i,e,f,c,d⟩:=h;exact⟨g,i,e,f,c.mono a,d.mono a⟩
theorem zK.keep{c:List zB}(h:zK Z w v c)(b:zA Z w w'):zK Z w' v c:=by
 obtain⟨A,cap,e,d,f,a,g⟩:=h;exact⟨A,cap,e,d,f,a,g.imp (λ_ _ h=>h.keep b) b (λ_ h=>h)⟩
theorem zK.mono{d:List zB}(h:zK Z w v d)(c:∀b,Z b->Z' b):zK Z' w v d:=by
 obtain⟨A,cap,e,f,g,a,i⟩:=h;exact⟨A,cap,e,f,g,a,i.imp (λ_ _ h=>h.mono c) (zA.refl _ _) c⟩
mutual
theorem FmR.keep(o:zA Z w w'):∀(f:Fm)(cs:List Value),FmR Z w f cs->FmR Z w' f cs
 | .mk op nm c n kids,cs,h=>by
  unfold FmR at h⊢;obtain⟨b,d,g,i,A,cap,e,j,k,a,m⟩:=h;exact⟨b,d,g,i,A,cap,e,j,k,a,zAD.keep o kids A m⟩
theorem zAD.keep(a:zA Z w w'):∀(l:List Fm)(A:Option Addr),zAD Z w l A->zAD Z w' l A
 |[],_,_=>by unfold zAD;trivial
 |k::ks,A,h=>by
  unfold zAD at h⊢;obtain⟨b,c,cs,e,d,i,f,g⟩:=h;exact⟨b,c,cs,e,d,λj u m=>a.cell d (i j u m),FmR.keep a k cs f,zAD.keep a ks _ g⟩
end
mutual
theorem FmR.mono(q:∀b,Z b->Z' b):∀(f:Fm)(cs:List Value),FmR Z w f cs->FmR Z' w f cs
 | .mk op nm c n kids,cs,h=>by
  unfold FmR at h⊢;obtain⟨d,g,i,j,A,cap,e,k,m,a,o⟩:=h;exact⟨d,g,i,j,A,cap,e,k,m,a,zAD.mono q kids A o⟩
theorem zAD.mono(a:∀b,Z b->Z' b):∀(l:List Fm)(A:Option Addr),zAD Z w l A->zAD Z' w l A
 |[],_,_=>by unfold zAD;trivial
 |k::ks,A,h=>by
  unfold zAD at h⊢;obtain⟨b,c,cs,e,g,i,d,f⟩:=h;exact⟨b,c,cs,e,a b g,i,FmR.mono a k cs d,zAD.mono a ks _ f⟩
end
end keep
theorem zEP{f:zE}(a:∀j u,(zE.cells f)[j]? =some u->w.cell? ⟨b,o+j,none⟩=some u):
  w.cell? ⟨b,o,none⟩=some (.string f.name)/\w.cell? ⟨b,o+1,none⟩=some (.int .i64 f.kind)/\w.cell? ⟨b,o+2,none⟩=some (.int .i64 f.lo)/\w.cell? ⟨b,o+3,none⟩=some (.int .i64 f.hi):=
 ⟨a 0 _ rfl,a 1 _ rfl,a 2 _ rfl,a 3 _ rfl⟩
theorem zEQ{v0 v1 v2 v3:Value}(a:∀j u,[v0,v1,v2,v3][j]? =some u->w.cell? ⟨b,o+j,none⟩=some u):
  w.cell? ⟨b,o,none⟩=some v0/\w.cell? ⟨b,o+1,none⟩=some v1/\w.cell? ⟨b,o+2,none⟩=some v2/\w.cell? ⟨b,o+3,none⟩=some v3:=
 ⟨a 0 _ rfl,a 1 _ rfl,a 2 _ rfl,a 3 _ rfl⟩
theorem zAL{v0 v1 v2 v3 v4:Value}(a:∀j u,[v0,v1,v2,v3,v4][j]? =some u->w.cell? ⟨b,o+j,none⟩=some u):
  w.cell? ⟨b,o,none⟩=some v0/\w.cell? ⟨b,o+1,none⟩=some v1/\w.cell? ⟨b,o+2,none⟩=some v2/\w.cell? ⟨b,o+3,none⟩=some v3/\w.cell? ⟨b,o+4,none⟩=some v4:=
 ⟨a 0 _ rfl,a 1 _ rfl,a 2 _ rfl,a 3 _ rfl,a 4 _ rfl⟩
theorem zDj(h:Below B w w')(a:b<B)(c:∀j u,cs[j]? =some u->w.cell? ⟨b,o+j,none⟩=some u):
  ∀j u,cs[j]? =some u->w'.cell? ⟨b,o+j,none⟩=some u:=λj u d=>(h.cell (p:=⟨b,o+j,none⟩) a).trans (c j u d)
theorem zAD.seq{Z:zD}{w:World}:∀{l:List Fm}{A:Option Addr},zAD Z w l A->zAW (λcs f=>FmR Z w f cs) 5 Z w l A
 |[],_,_=>trivial
 | _::_,_,h=>by
  unfold zAD at h;obtain⟨b,a,cs,e,i,g,c,d⟩:=h;exact⟨b,a,cs,e,i,g,c,zAD.seq d⟩
theorem zAD.of_seq{Z:zD}{w:World}:∀{l:List Fm}{A:Option Addr},zAW (λcs f=>FmR Z w f cs) 5 Z w l A->zAD Z w l A
 |[],_,_=>by unfold zAD;trivial
 | _::_,_,⟨b,off,cs,e,hz,hc,h1,h2⟩=>by
  unfold zAD;exact⟨b,off,cs,e,hz,hc,h1,zAD.of_seq h2⟩
def firstIdx(p:Nat->Bool):(n:Nat)->(i:Nat)->Int
 |0,_=> -1
 |n+1,i=>if p i then i else firstIdx p n (i+1)
theorem zCr{p:Nat->Bool}:∀{n i k:Nat},(∀j,i<=j->j<k->p j=false)->i<=k->k<i+n->p k=true->firstIdx p n i=k
 |0,i,k,_,h1,h2,_=>by omega
 |n+1,i,k,h,h1,h2,hp=>by
  unfold firstIdx;by_cases e:i=k
  ·subst e;rw[if_pos hp]
  ·rw[if_neg (by rw[h i (Nat.le_refl _) (by omega)];simp),zCr (λj a b=>h j (by omega) b) (by omega) (by omega) hp]
theorem zDd{p:Nat->Bool}:∀{n i:Nat},(∀j,i<=j->j<i+n->p j=false)->firstIdx p n i= -1
 |0,_,_=>rfl
 |n+1,i,h=>by
  unfold firstIdx;rw[if_neg (by rw[h i (Nat.le_refl _) (by omega)];simp),zDd (λj a b=>h j (by omega) (by omega))]
theorem zDe(p:Nat->Bool)(n i:Nat):(∃k,i<=k/\k<i+n/\p k=true/\(∀j,i<=j->j<k->p j=false)/\firstIdx p n i=k)\/((∀j,i<=j->j<i+n->p j=false)/\firstIdx p n i= -1):=by
 induction n generalizing i with
 |zero=>exact .inr ⟨λj a b=>by omega,rfl⟩
 |succ n ih=>
  unfold firstIdx;by_cases c:p i=true
  ·rw[if_pos c];exact .inl ⟨i,Nat.le_refl _,by omega,c,λj a b=>by omega,rfl⟩
  ·rw[if_neg c];rcases ih (i+1)with⟨k,h1,h2,h3,h4,h5⟩|⟨h1,h2⟩
   ·exact .inl ⟨k,by omega,by omega,h3,λj a b=>by
     by_cases e:j=i
     ·subst e;simpa using c
     ·exact h4 j (by omega) b,h5⟩
   ·exact .inr ⟨λj a b=>by
     by_cases e:j=i
     ·subst e;simpa using c
     ·exact h1 j (by omega) (by omega),h2⟩
def zLD{α:Type}(P:Program)(g:FuncId)(lb:Array Value)(R:List Value->α->Prop)(w:World)(xs:List α)(p:Nat->Bool):Prop:=
 ∀i(hi:i<xs.length) cs,R cs xs[i]->∀W,Below w.heap.size w W->Calls P g (#[.agg cs.toArray]++lb) W λe W'=>e= .returned (.bool (p i))/\Below W.heap.size W W'
theorem Row.of_own{n a:Nat}{xs:List Value}(h:w.ownsRow base e a v n xs)(f:0<a):
  ∃A cap,v= .slice A n cap/\n<=cap/\cap<=maxLen/\Row (λb=>base<=b) w A xs:=by
 have c:=h.1;rcases h.2 with⟨rfl,rfl⟩|⟨g,cap,cur,rfl,hb,hg,hn,hm,hsz,htk⟩
 ·exact⟨none,0,rfl,Nat.le_refl _,by simp[maxLen],λd=>absurd (List.eq_nil_of_length_eq_zero (by simpa using c)) d⟩
 ·refine⟨some ⟨g,0,none⟩,cap,rfl,hn,hm,λ_=>⟨g,0,rfl,hb,λj u i=> ?_⟩⟩;have:=h.cells (g:=g) rfl j u i;rwa[show(⟨g,0,none⟩:Addr).add j=⟨g,0+j,none⟩ from by unfold Addr.add;split<;>simp_all]at this
theorem zO.of_own(h:w.ownsRow base e 1 v n (xs.map (.int .i64)))(f:∀x∈xs,I64 x)(g:xs.length*8<=140737488355328):zO (λb=>base<=b) w v xs:=by
 have i:xs.length=n:=by have:=h.1;simpa using this
 subst i;obtain⟨A,cap,e,a,c,d⟩:=Row.of_own h (by omega);exact⟨⟨A,cap,e,a,by simpa[maxLen]using c,g,d⟩,f⟩
theorem zO.nil(Z:zD)(w:World):zO Z w (.slice none 0 0) []:=⟨⟨none,0,rfl,Nat.le_refl _,by omega,by simp,Row.nil⟩,by simp⟩
theorem zO.at_{Z:zD}(h:zO Z w (.slice A n cap) xs){i:Nat}(hi:i<xs.length):
  ∃b a,A=some ⟨b,a,none⟩/\Z b/\b<w.heap.size/\w.cell? ⟨b,a+i,none⟩=some (.int .i64 xs[i]):=by
 obtain⟨⟨j,c,e,_,_,_,f⟩,_⟩:=h;injection e with e1 e2 e3;subst e1;obtain⟨b,a,rfl,g,d⟩:=f (by intro he;rw[List.map_eq_nil_iff]at he;subst he;simp at hi);have:=d i (.int .i64 xs[i]) (by simp[hi]);exact⟨b,a,rfl,g,lt_of_cell this,this⟩
theorem zO.open_{Z:zD}(h:zO Z w v xs)(c:xs≠[]):
  ∃b a cap,v= .slice (some ⟨b,a,none⟩) xs.length cap/\Z b/\b<w.heap.size/\xs.length<=cap/\∀j,j<xs.length->w.cell? ⟨b,a+j,none⟩=some (.int .i64 (xs.getD j 0)):=by
 obtain⟨⟨A,cap,rfl,g,_,_,k⟩,_⟩:=h;obtain⟨b,a,rfl,m,i⟩:=k (by simpa using c);have f:0<xs.length:=List.length_pos_iff.2 c
 have d:∀j,j<xs.length->w.cell? ⟨b,a+j,none⟩=some (.int .i64 (xs.getD j 0)):=λj e=>by
  rw[i j (.int .i64 xs[j]) (by simp[e])];simp[List.getD,e]
 exact⟨b,a,cap,rfl,m,lt_of_cell (d 0 f),g,d⟩
theorem zO.len{Z:zD}(h:zO Z w (.slice A n cap) xs):n=xs.length:=by
 obtain⟨⟨b,a,e,_⟩,_⟩:=h;injection e
def One(w:World)(B:Nat)(v:Value):Prop:=∃t,w.heap[B]? =some (.cells #[v] t (0,0))
section one
variable {w w':World} {B:Nat} {v:Value}
theorem One.cell(h:One w B v):w.cell? ⟨B,0,none⟩=some v:=by obtain⟨t,h⟩:=h;exact cell_of_one h
theorem One.free(h:One w B v):w.frozen? ⟨B,0,none⟩=false:=by obtain⟨t,h⟩:=h;exact free_of_one h
theorem One.lt(h:One w B v):B<w.heap.size:=by obtain⟨t,h⟩:=h;exact lt_of_block h
theorem One.new(w:World)(v:Value)(t:TypeId):One (w.alloc (.cells #[v] t)) w.heap.size v:=⟨t,heap_alloc_new w _⟩
theorem One.of_block(h:One w B v)(a:w'.heap[B]? =w.heap[B]?):One w' B v:=by obtain⟨t,h⟩:=h;exact⟨t,a.trans h⟩
theorem One.keep{Z:zD}(h:One w B v)(a:zA Z w w')(b:Z B):One w' B v:=h.of_block (a.block B h.lt b)
theorem One.below{C:Nat}(h:One w B v)(a:Below C w w')(b:B<C):One w' B v:=h.of_block (a.block B b)
theorem One.alloc(h:One w B v)(o:Obj):One (w.alloc o) B v:=h.of_block (Below.heap_alloc _ _ _ h.lt)
theorem One.drew(h:One w B v):One w.drew B v:=h
theorem One.set_(h:One w B v)(u:Value):One (w.setCell ⟨B,0,none⟩ u) B u:=by obtain⟨t,h⟩:=h;exact⟨t,one_setCell h⟩
theorem One.far(h:One w B v)(a:B≠p.block)(u:Value):One (w.setCell p u) B v:=h.of_block (Below.heap_setCell _ _ _ _ a)
end one
theorem zOq(Z:zD)(w:World)(n:Nat):zA Z w (w.drewN n):=⟨rfl,rfl,rfl,Nat.le_refl _,λ_ _ _=>rfl⟩
theorem zO.drewN{Z:zD}(h:zO Z w v xs)(n:Nat):zO Z (w.drewN n) v xs:=h.keep (zOq Z w n)
theorem blw(h:Below n w w':=by(repeat(first|exact Below.refl _ _ |assumption|refine below_drewN' ?_ _ |refine Below.drew ?_ |(refine Below.setCell ?_ (by first|exact Nat.le_refl _ |(simp;done)|(simp;omega)|omega) _)|(refine Below.alloc ?_ (by first|exact Nat.le_refl _ |(simp;done)|(simp;omega)|omega) _)))):Below n w w':=h
abbrev Bw(w w':World):Prop:=Below w.heap.size w w'
end Go.Proofs.YtommaegelgilnaaGreatDoor
