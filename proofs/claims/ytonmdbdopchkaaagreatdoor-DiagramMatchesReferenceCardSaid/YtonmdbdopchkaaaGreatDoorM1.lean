/- Texts NR A. -/
import Derived.WalkKit
import Derived.Deep.Draws
set_option linter.all false
namespace Go.Proofs.YtonmdbdopchkaaaGreatDoor
open Go.RowKit
theorem nr:(∀(a:Act)(d:Option Tmp)(v:Value),a.put d v=match d with|some d=>{a with tmps:=a.tmps.setIfInBounds d v}|none=>a)∧
  (∀(α:Type)(l:List α)(i:Nat)(x:α),l.toArray.setIfInBounds i x=(l.set i x).toArray)∧(∀(α:Type)(a:α)(l:List α)(i:Nat)(x:α),(a::l).set (i+1) x=a::l.set i x)∧
  ∀(α:Type)(a:α)(l:List α)(x:α),(a::l).set 0 x=x::l:=⟨λ_ _ _=>rfl,λ_ _ _ _=>List.setIfInBounds_toArray ..,λ_ _ _ _ _=>rfl,λ_ _ _ _=>rfl⟩
theorem brd{n:Nat}{w w':World}{p:Addr}{v:Value}(h:Below n w w')(e:w.cell? p=some v)(hl:p.block<n):w'.cell? p=some v:=(h.cell hl).trans e
theorem hid{p:Prop}(h:p):Hid p:=h
abbrev zD:=Nat->Prop
def zD.up(Z:zD)(n:Nat):zD:=λb=>Z b∨n≤b
structure zA (Z:zD) (w w':World):Prop where
 os:w'.os=w.os
 tape:w'.tape=w.tape
 output:w'.output=w.output
 size:w.heap.size≤w'.heap.size
 block:∀k,k<w.heap.size->Z k->w'.heap[k]? =w.heap[k]?
section keeps
variable {Z Z':zD} {w w' w'':World}
theorem zA.refl(Z:zD)(w:World):zA Z w w:=⟨rfl,rfl,rfl,Nat.le_refl _,λ_ _ _=>rfl⟩
theorem zA.trans(h:zA Z w w')(k:zA Z w' w''):zA Z w w'':=
 ⟨k.os.trans h.os,k.tape.trans h.tape,k.output.trans h.output,Nat.le_trans h.size k.size,λi hi hz=>(k.block i (Nat.lt_of_lt_of_le hi h.size) hz).trans (h.block i hi hz)⟩
theorem zA.mono(h:zA Z w w')(hz:∀b,b<w.heap.size->Z' b->Z b):zA Z' w w':=⟨h.os,h.tape,h.output,h.size,λk hk hz'=>h.block k hk (hz k hk hz')⟩
theorem zA.of_below(h:Below w.heap.size w w'):zA Z w w':=⟨h.os,h.tape,h.output,h.size,λk hk _=>h.block k hk⟩
theorem zA.of_below_lt{B:Nat}(h:Below B w w')(hz:∀b,b<w.heap.size->Z b->b<B):zA Z w w':=⟨h.os,h.tape,h.output,h.size,λk hk hk'=>h.block k (hz k hk hk')⟩
theorem zA.below(h:zA (λ_=>True) w w'):Below w.heap.size w w':=⟨h.os,h.tape,h.output,h.size,λk hk=>h.block k hk trivial⟩
theorem zA.drew(h:zA Z w w'):zA Z w w'.drew:=⟨h.os,h.tape,h.output,h.size,h.block⟩
theorem zA.drewN(h:zA Z w w')(n:Nat):zA Z w (w'.drewN n):=⟨h.os,h.tape,h.output,h.size,h.block⟩
theorem zA.alloc(h:zA Z w w')(o:Obj):zA Z w (w'.alloc o):=
 ⟨h.os,h.tape,h.output,Nat.le_trans h.size (by simp),λk hk hz=>(Below.heap_alloc _ _ _ (Nat.lt_of_lt_of_le hk h.size)).trans (h.block k hk hz)⟩
theorem zA.setCell(h:zA Z w w'){p:Addr}(hp:p.block<w.heap.size->¬Z p.block)(u:Value):zA Z w (w'.setCell p u):=
 ⟨h.os,h.tape,h.output,Nat.le_trans h.size (by simp[World.setCell]),λk hk hz=>(Below.heap_setCell _ _ _ _ (λe=>by subst e;exact hp hk hz)).trans (h.block k hk hz)⟩
theorem zA.grown{row:Option Nat}(h:zA Z w w')(hg:w'.grownBy w'' row)(hr:∀k,row=some k->k<w.heap.size->¬Z k):zA Z w w'':=
 ⟨hg.os.trans h.os,hg.tape.trans h.tape,hg.output.trans h.output,Nat.le_trans h.size hg.size,λk hk hz=>
  (hg.block k (Nat.lt_of_lt_of_le hk h.size) (λe=>hr k e.symm hk hz)).trans (h.block k hk hz)⟩
theorem zA.cell(h:zA Z w w'){p:Addr}{v:Value}(hz:Z p.block)(hc:w.cell? p=some v):w'.cell? p=some v:=by
 have hlt:p.block<w.heap.size:=by
  unfold World.cell? at hc;rcases Nat.lt_or_ge p.block w.heap.size with hlt|hge
  ·exact hlt
  ·rw[Array.getElem?_eq_none hge]at hc;simp at hc
 rw[World.cell?_of_block (w:=w) (h.block p.block hlt hz)];exact hc
end keeps
theorem zFJ{B:Nat}{w w':World}(h:Below B w w'):zA (· <B) w w':=⟨h.os,h.tape,h.output,h.size,λk _ hz=>h.block k hz⟩
theorem zGz{B:Nat}{w w':World}(h:zA (· <B) w w')(hB:B≤w.heap.size):Below B w w':=⟨h.os,h.tape,h.output,h.size,λk hk=>h.block k (by omega) hk⟩
theorem zA1{B b:Nat}{w x w1:World}(h:Below B w x)(hk:zA (λc=>c≠b) x w1)(hb:B≤b)(hB:B≤x.heap.size):Below B w w1:=
 h.trans ⟨hk.os,hk.tape,hk.output,hk.size,λk hlt=>hk.block k (by omega) (by omega)⟩
theorem zKU{B:Nat}{W w1:World}(hb:Below B W w1):(∀b o,b<B->w1.cell? ⟨b,o,none⟩=W.cell? ⟨b,o,none⟩)∧(∀b o,b<B->w1.frozen? ⟨b,o,none⟩=W.frozen? ⟨b,o,none⟩):=
 ⟨λb o h=>hb.cell (p:=⟨b,o,none⟩) h,λb o h=>hb.frozen (p:=⟨b,o,none⟩) h⟩
theorem lt_of_cell{w:World}{p:Addr}{v:Value}(hc:w.cell? p=some v):p.block<w.heap.size:=by
 unfold World.cell? at hc;rcases Nat.lt_or_ge p.block w.heap.size with hlt|hge
 ·exact hlt
 ·rw[Array.getElem?_eq_none hge]at hc;simp at hc
theorem zCa{w:World}{p:Addr}{v:Value}(h:w.cell? p=some v)(o:Obj):(w.alloc o).cell? p=some v:=by
 rw[World.cell?_alloc_lt w o p (lt_of_cell h)];exact h
theorem below_drewN'{B:Nat}{a w:World}(h:Below B a w)(n:Nat):Below B a (w.drewN n):=⟨h.os,h.tape,h.output,h.size,h.block⟩
theorem zE(w:World)(o:Obj):Below w.heap.size w (w.alloc o):=(Below.refl _ _).alloc (Nat.le_refl _) o
theorem zy{B:Nat}{w w1 w2:World}(h:Below B w w1)(h2:Below w1.heap.size w1 w2)(hB:B≤w.heap.size:=by exact Nat.le_refl _):Below B w w2:=h.trans (h2.mono (Nat.le_trans hB h.size))
def Row(Z:zD)(w:World)(A:Option Addr)(xs:List Value):Prop:=
 xs≠[]->∃b off,A=some ⟨b,off,none⟩∧Z b∧∀j u,xs[j]? =some u->w.cell? ⟨b,off+j,none⟩=some u
section row
variable {Z Z':zD} {w w':World} {A:Option Addr} {xs:List Value}
theorem Row.keep(h:Row Z w A xs)(hk:zA Z w w'):Row Z w' A xs:=λhne=>by
 obtain⟨b,off,e,hz,hc⟩:=h hne;exact⟨b,off,e,hz,λj u hu=>hk.cell hz (hc j u hu)⟩
theorem Row.mono(h:Row Z w A xs)(hz:∀b,Z b->Z' b):Row Z' w A xs:=λhne=>by
 obtain⟨b,off,e,h1,hc⟩:=h hne;exact⟨b,off,e,hz b h1,hc⟩
theorem Row.nil:Row Z w A []:=λh=>absurd rfl h
end row
def I64(n:Int):Prop:= -9223372036854775808≤n∧n≤9223372036854775807
structure zL (Z:zD) (w:World) (v:Value) (xs:List Int):Prop where
 is:∃A cap,v= .slice A xs.length cap∧xs.length≤cap∧cap≤9223372036854775807∧xs.length*8≤140737488355328∧Row Z w A (xs.map (.int .i64))
 fit:∀x∈xs,I64 x
structure zC where
 name:ByteArray
 kind:Int
 lo:Int
 hi:Int
def zC.cells(f:zC):List Value:=[.string f.name,.int .i64 f.kind,.int .i64 f.lo,.int .i64 f.hi]
def zC.fit(f:zC):Prop:=f.name.size≤140737488355328∧I64 f.kind∧I64 f.lo∧I64 f.hi
def zAT{α:Type}(R:List Value->α->Prop)(size:Nat)(Z:zD)(w:World):List α->Option Addr->Prop
 |[],_=>True
 |k::ks,A=>∃b off cs,A=some ⟨b,off,none⟩∧Z b∧(∀j u,cs[j]? =some u->w.cell? ⟨b,off+j,none⟩=some u)∧R cs k∧zAT R size Z w ks (some ⟨b,off+size,none⟩)
section seq
variable {α:Type} {R R':List Value->α->Prop} {size:Nat} {Z Z':zD} {w w':World}
theorem zAT.imp(hR:∀cs x,R cs x->R' cs x)(hk:zA Z w w')(hz:∀b,Z b->Z' b):∀{l:List α}{A:Option Addr},zAT R size Z w l A->zAT R' size Z' w' l A
 |[],_,_=>trivial
 | _::_,_,⟨b,off,cs,e,h1,hc,h2,h3⟩=>⟨b,off,cs,e,hz b h1,λj u hu=>hk.cell h1 (hc j u hu),hR _ _ h2,zAT.imp hR hk hz h3⟩
theorem zAT.at_:∀{l:List α}{A:Option Addr}(_:zAT R size Z w l A){i:Nat}(hi:i<l.length),
  ∃b off cs,A=some ⟨b,off,none⟩∧Z b∧(∀j u,cs[j]? =some u->w.cell? ⟨b,off+i*size+j,none⟩=some u)∧R cs l[i]
 | _::_,_,⟨b,off,cs,e,hz,hc,h1,_⟩,0,_=>⟨b,off,cs,e,hz,by simpa using hc,h1⟩
 | _::_,_,⟨b,off,cs,e,hz,hc,_,h2⟩,i+1,hi=>by
  obtain⟨b',off',cs',e',hz',hc',h1'⟩:=zAT.at_ h2 (i:=i) (by simpa using hi);injection e' with e';injection e' with eb eo;subst eb eo;exact⟨b,off,cs',e,hz,λj u hu=>by have:=hc' j u hu;rwa[show off+size+i*size+j=off+(i+1)*size+j from by rw[Nat.add_mul];omega]at this,by simpa using h1'⟩
theorem zAT.append{m:List α}{b:Nat}:∀{l:List α}{off:Nat},zAT R size Z w l (some ⟨b,off,none⟩)->zAT R size Z w m (some ⟨b,off+l.length*size,none⟩)->zAT R size Z w (l++m) (some ⟨b,off,none⟩)
 |[],_,_,h=>by simpa using h
 |x::l,off,⟨b',off',cs,e,hz,hc,h1,h2⟩,h=>by
  injection e with e;injection e with eb eo;subst eb eo;refine⟨_,_,cs,rfl,hz,hc,h1,zAT.append h2 ?_⟩;have e:off+size+l.length*size=off+(x::l).length *size:=by rw[List.length_cons,Nat.add_mul];omega
  rw[e];exact h
end seq
structure Facts (Z:zD) (w:World) (v:Value) (xs:List zC):Prop where
 is:∃A cap,v= .slice A xs.length cap∧xs.length≤cap∧cap≤9223372036854775807∧xs.length*40≤140737488355328∧zAT (λcs x=>cs=zC.cells x) 4 Z w xs A
 fit:∀x∈xs,x.fit
structure zB where
 leaf:Bool
 fact:Int
 cuts:List Int
 kids:List Int
deriving DecidableEq
def zd(Z:zD)(w:World)(cs:List Value)(n:zB):Prop:=
 ∃vc vk,cs=[.bool n.leaf,.int .i64 n.fact,vc,vk]∧I64 n.fact∧zL Z w vc n.cuts∧zL Z w vk n.kids
def zO(Z:zD)(w:World)(v:Value)(ns:List zB):Prop:=
 ∃A cap,v= .slice A ns.length cap∧ns.length≤cap∧cap≤9223372036854775807∧ns.length*64≤140737488355328∧zAT (zd Z w) 4 Z w ns A
inductive Fm where
 |mk (op:Int) (name:ByteArray) (cmp n:Int) (kids:List Fm)
mutual
def FmR(Z:zD)(w:World):Fm->List Value->Prop
 | .mk op nm c n kids,cs=>I64 op∧nm.size≤140737488355328∧I64 c∧I64 n∧∃A cap,cs=[.int .i64 op,.string nm,.int .i64 c,.int .i64 n,.slice A kids.length cap]∧kids.length≤cap∧cap≤9223372036854775807∧kids.length*56≤140737488355328∧zt Z w kids A
def zt(Z:zD)(w:World):List Fm->Option Addr->Prop
 |[],_=>True
 |k::ks,A=>∃b off cs,A=some ⟨b,off,none⟩∧Z b∧(∀j u,cs[j]? =some u->w.cell? ⟨b,off+j,none⟩=some u)∧FmR Z w k cs∧zt Z w ks (some ⟨b,off+5,none⟩)
end
section keep
variable {Z Z':zD} {w w':World} {v:Value}
theorem zL.keep{xs:List Int}(h:zL Z w v xs)(hk:zA Z w w'):zL Z w' v xs:=by
 obtain⟨⟨A,cap,e,h1,h2,h2b,hr⟩,hf⟩:=h;exact⟨⟨A,cap,e,h1,h2,h2b,hr.keep hk⟩,hf⟩
theorem zL.mono{xs:List Int}(h:zL Z w v xs)(hz:∀b,Z b->Z' b):zL Z' w v xs:=by
 obtain⟨⟨A,cap,e,h1,h2,h2b,hr⟩,hf⟩:=h;exact⟨⟨A,cap,e,h1,h2,h2b,hr.mono hz⟩,hf⟩
theorem Facts.keep{xs:List zC}(h:Facts Z w v xs)(hk:zA Z w w'):Facts Z w' v xs:=by
 obtain⟨⟨A,cap,e,h1,h2,h2b,hr⟩,hf⟩:=h;exact⟨⟨A,cap,e,h1,h2,h2b,hr.imp (λ_ _ h=>h) hk (λ_ h=>h)⟩,hf⟩
theorem Facts.mono{xs:List zC}(h:Facts Z w v xs)(hz:∀b,Z b->Z' b):Facts Z' w v xs:=by
 obtain⟨⟨A,cap,e,h1,h2,h2b,hr⟩,hf⟩:=h;exact⟨⟨A,cap,e,h1,h2,h2b,hr.imp (λ_ _ h=>h) (zA.refl _ _) hz⟩,hf⟩
theorem zd.keep{cs:List Value}{n:zB}(h:zd Z w cs n)(hk:zA Z w w'):zd Z w' cs n:=by
 obtain⟨vc,vk,e,hf,h1,h2⟩:=h;exact⟨vc,vk,e,hf,h1.keep hk,h2.keep hk⟩
theorem zd.mono{cs:List Value}{n:zB}(h:zd Z w cs n)(hz:∀b,Z b->Z' b):zd Z' w cs n:=by
 obtain⟨vc,vk,e,hf,h1,h2⟩:=h;exact⟨vc,vk,e,hf,h1.mono hz,h2.mono hz⟩
theorem zO.keep{ns:List zB}(h:zO Z w v ns)(hk:zA Z w w'):zO Z w' v ns:=by
 obtain⟨A,cap,e,h1,h2,h2b,h3⟩:=h;exact⟨A,cap,e,h1,h2,h2b,h3.imp (λ_ _ h=>h.keep hk) hk (λ_ h=>h)⟩
theorem zO.mono{ns:List zB}(h:zO Z w v ns)(hz:∀b,Z b->Z' b):zO Z' w v ns:=by
 obtain⟨A,cap,e,h1,h2,h2b,h3⟩:=h;exact⟨A,cap,e,h1,h2,h2b,h3.imp (λ_ _ h=>h.mono hz) (zA.refl _ _) hz⟩
mutual
theorem FmR.keep(hk:zA Z w w'):∀(f:Fm)(cs:List Value),FmR Z w f cs->FmR Z w' f cs
 | .mk op nm c n kids,cs,h=>by
  unfold FmR at h⊢;obtain⟨h1,h2,h3,h4,A,cap,e,h5,h6,h6b,h7⟩:=h;exact⟨h1,h2,h3,h4,A,cap,e,h5,h6,h6b,zt.keep hk kids A h7⟩
theorem zt.keep(hk:zA Z w w'):∀(l:List Fm)(A:Option Addr),zt Z w l A->zt Z w' l A
 |[],_,_=>by unfold zt;trivial
 |k::ks,A,h=>by
  unfold zt at h⊢;obtain⟨b,off,cs,e,hz,hc,h1,h2⟩:=h;exact⟨b,off,cs,e,hz,λj u hu=>hk.cell hz (hc j u hu),FmR.keep hk k cs h1,zt.keep hk ks _ h2⟩
end
mutual
theorem FmR.mono(hz:∀b,Z b->Z' b):∀(f:Fm)(cs:List Value),FmR Z w f cs->FmR Z' w f cs
 | .mk op nm c n kids,cs,h=>by
  unfold FmR at h⊢;obtain⟨h1,h2,h3,h4,A,cap,e,h5,h6,h6b,h7⟩:=h;exact⟨h1,h2,h3,h4,A,cap,e,h5,h6,h6b,zt.mono hz kids A h7⟩
theorem zt.mono(hz:∀b,Z b->Z' b):∀(l:List Fm)(A:Option Addr),zt Z w l A->zt Z' w l A
 |[],_,_=>by unfold zt;trivial
 |k::ks,A,h=>by
  unfold zt at h⊢;obtain⟨b,off,cs,e,hb,hc,h1,h2⟩:=h;exact⟨b,off,cs,e,hz b hb,hc,FmR.mono hz k cs h1,zt.mono hz ks _ h2⟩
end
end keep
theorem zt.at_{Z:zD}{w:World}:∀{l:List Fm}{A:Option Addr}(_:zt Z w l A){i:Nat}(hi:i<l.length),
  ∃b off cs,A=some ⟨b,off,none⟩∧Z b∧(∀j u,cs[j]? =some u->w.cell? ⟨b,off+i*5+j,none⟩=some u)∧FmR Z w l[i] cs
 |k::ks,A,h,0,_=>by
  unfold zt at h;obtain⟨b,off,cs,e,hz,hc,h1,_⟩:=h;exact⟨b,off,cs,e,hz,by simpa using hc,h1⟩
 |k::ks,A,h,i+1,hi=>by
  unfold zt at h;obtain⟨b,off,cs,e,hz,hc,_,h2⟩:=h;obtain⟨b',off',cs',e',hz',hc',h1'⟩:=zt.at_ h2 (i:=i) (by simpa using hi);injection e' with e';injection e' with eb eo;subst eb eo;exact⟨b,off,cs',e,hz,λj u hu=>by have:=hc' j u hu;rwa[show off+5+i*5+j=off+(i+1)*5+j from by omega]at this,by simpa using h1'⟩
theorem FmR.size{Z:zD}{w:World}{f:Fm}{cs:List Value}(h:FmR Z w f cs):cs.length=5:=by
 obtain⟨op,nm,c,n,kids⟩:=f;unfold FmR at h;obtain⟨_,_,_,_,A,cap,e,_⟩:=h;subst e;rfl
theorem zFm{w:World}{b o:Nat}{f:zC}(hc:∀j u,(zC.cells f)[j]? =some u->w.cell? ⟨b,o+j,none⟩=some u):
  w.cell? ⟨b,o,none⟩=some (.string f.name)∧w.cell? ⟨b,o+1,none⟩=some (.int .i64 f.kind)∧w.cell? ⟨b,o+2,none⟩=some (.int .i64 f.lo)∧w.cell? ⟨b,o+3,none⟩=some (.int .i64 f.hi):=
 ⟨hc 0 _ rfl,hc 1 _ rfl,hc 2 _ rfl,hc 3 _ rfl⟩
theorem zEd{w:World}{b o:Nat}{v0 v1 v2 v3:Value}(hc:∀j u,[v0,v1,v2,v3][j]? =some u->w.cell? ⟨b,o+j,none⟩=some u):
  w.cell? ⟨b,o,none⟩=some v0∧w.cell? ⟨b,o+1,none⟩=some v1∧w.cell? ⟨b,o+2,none⟩=some v2∧w.cell? ⟨b,o+3,none⟩=some v3:=
 ⟨hc 0 _ rfl,hc 1 _ rfl,hc 2 _ rfl,hc 3 _ rfl⟩
theorem zp{w:World}{b o:Nat}{v0 v1 v2 v3 v4:Value}(hc:∀j u,[v0,v1,v2,v3,v4][j]? =some u->w.cell? ⟨b,o+j,none⟩=some u):
  w.cell? ⟨b,o,none⟩=some v0∧w.cell? ⟨b,o+1,none⟩=some v1∧w.cell? ⟨b,o+2,none⟩=some v2∧w.cell? ⟨b,o+3,none⟩=some v3∧w.cell? ⟨b,o+4,none⟩=some v4:=
 ⟨hc 0 _ rfl,hc 1 _ rfl,hc 2 _ rfl,hc 3 _ rfl,hc 4 _ rfl⟩
theorem zFK{B:Nat}{w w':World}(h:Below B w w'){b o:Nat}{cs:List Value}(hb:b<B)(hc:∀j u,cs[j]? =some u->w.cell? ⟨b,o+j,none⟩=some u):
  ∀j u,cs[j]? =some u->w'.cell? ⟨b,o+j,none⟩=some u:=λj u hu=>(h.cell (p:=⟨b,o+j,none⟩) hb).trans (hc j u hu)
theorem zt.seq{Z:zD}{w:World}:∀{l:List Fm}{A:Option Addr},zt Z w l A->zAT (λcs f=>FmR Z w f cs) 5 Z w l A
 |[],_,_=>trivial
 | _::_,_,h=>by
  unfold zt at h;obtain⟨b,off,cs,e,hz,hc,h1,h2⟩:=h;exact⟨b,off,cs,e,hz,hc,h1,zt.seq h2⟩
theorem zt.of_seq{Z:zD}{w:World}:∀{l:List Fm}{A:Option Addr},zAT (λcs f=>FmR Z w f cs) 5 Z w l A->zt Z w l A
 |[],_,_=>by unfold zt;trivial
 | _::_,_,⟨b,off,cs,e,hz,hc,h1,h2⟩=>by
  unfold zt;exact⟨b,off,cs,e,hz,hc,h1,zt.of_seq h2⟩
def firstIdx(p:Nat->Bool):(n:Nat)->(i:Nat)->Int
 |0,_=> -1
 |n+1,i=>if p i then i else firstIdx p n (i+1)
theorem zCS{p:Nat->Bool}:∀{n i k:Nat},(∀j,i≤j->j<k->p j=false)->i≤k->k<i+n->p k=true->firstIdx p n i=k
 |0,i,k,_,h1,h2,_=>by omega
 |n+1,i,k,h,h1,h2,hp=>by
  unfold firstIdx;by_cases e:i=k
  ·subst e;rw[if_pos hp]
  ·rw[if_neg (by rw[h i (Nat.le_refl _) (by omega)];simp),zCS (λj a b=>h j (by omega) b) (by omega) (by omega) hp]
theorem zEN{p:Nat->Bool}:∀{n i:Nat},(∀j,i≤j->j<i+n->p j=false)->firstIdx p n i= -1
 |0,_,_=>rfl
 |n+1,i,h=>by
  unfold firstIdx;rw[if_neg (by rw[h i (Nat.le_refl _) (by omega)];simp),zEN (λj a b=>h j (by omega) (by omega))]
theorem zDP(p:Nat->Bool)(n i:Nat):(∃k,i≤k∧k<i+n∧p k=true∧(∀j,i≤j->j<k->p j=false)∧firstIdx p n i=k)∨((∀j,i≤j->j<i+n->p j=false)∧firstIdx p n i= -1):=by
 induction n generalizing i with
 |zero=>exact .inr ⟨λj a b=>by omega,rfl⟩
 |succ n ih=>
  unfold firstIdx;by_cases hp:p i=true
  ·rw[if_pos hp];exact .inl ⟨i,Nat.le_refl _,by omega,hp,λj a b=>by omega,rfl⟩
  ·rw[if_neg hp];rcases ih (i+1)with⟨k,h1,h2,h3,h4,h5⟩|⟨h1,h2⟩
   ·exact .inl ⟨k,by omega,by omega,h3,λj a b=>by
     by_cases e:j=i
     ·subst e;simpa using hp
     ·exact h4 j (by omega) b,h5⟩
   ·exact .inr ⟨λj a b=>by
     by_cases e:j=i
     ·subst e;simpa using hp
     ·exact h1 j (by omega) (by omega),h2⟩
def zQF{α:Type}(P:Program)(g:FuncId)(lb:Array Value)(R:List Value->α->Prop)(w:World)(xs:List α)(p:Nat->Bool):Prop:=
 ∀i(hi:i<xs.length) cs,R cs xs[i]->∀W,Below w.heap.size w W->Calls P g (#[.agg cs.toArray]++lb) W λe W'=>e= .returned (.bool (p i))∧Below W.heap.size W W'
theorem Row.of_own{w:World}{base:Nat}{e:TypeId}{v:Value}{n size:Nat}{xs:List Value}(h:w.ownsRow base e size v n xs)(_hs:0<size):
  ∃A cap,v= .slice A n cap∧n≤cap∧cap≤maxLen∧Row (λb=>base≤b) w A xs:=by
 have hlen:=h.1;rcases h.2 with⟨rfl,rfl⟩|⟨g,cap,cur,rfl,hb,hg,hn,hm,hsz,htk⟩
 ·exact⟨none,0,rfl,Nat.le_refl _,by simp[maxLen],λhne=>absurd (List.eq_nil_of_length_eq_zero (by simpa using hlen)) hne⟩
 ·refine⟨some ⟨g,0,none⟩,cap,rfl,hn,hm,λ_=>⟨g,0,rfl,hb,λj u hu=> ?_⟩⟩;have:=h.cells (g:=g) rfl j u hu;rwa[show(⟨g,0,none⟩:Addr).add j=⟨g,0+j,none⟩ from by unfold Addr.add;split<;>simp_all]at this
theorem zL.of_own{w:World}{base:Nat}{e:TypeId}{v:Value}{n:Nat}{xs:List Int}(h:w.ownsRow base e 1 v n (xs.map (.int .i64)))(hf:∀x∈xs,I64 x)(hl:xs.length*8≤140737488355328):zL (λb=>base≤b) w v xs:=by
 have hn:xs.length=n:=by have:=h.1;simpa using this
 subst hn;obtain⟨A,cap,e,h1,h2,h3⟩:=Row.of_own h (by omega);exact⟨⟨A,cap,e,h1,by simpa[maxLen]using h2,hl,h3⟩,hf⟩
theorem zL.nil(Z:zD)(w:World):zL Z w (.slice none 0 0) []:=⟨⟨none,0,rfl,Nat.le_refl _,by omega,by simp,Row.nil⟩,by simp⟩
theorem zL.at_{Z:zD}{w:World}{A:Option Addr}{cap n:Nat}{xs:List Int}(h:zL Z w (.slice A n cap) xs){i:Nat}(hi:i<xs.length):
  ∃b off,A=some ⟨b,off,none⟩∧Z b∧b<w.heap.size∧w.cell? ⟨b,off+i,none⟩=some (.int .i64 xs[i]):=by
 obtain⟨⟨A',cap',e,_,_,_,hr⟩,_⟩:=h;injection e with e1 e2 e3;subst e1;obtain⟨b,off,rfl,hz,hc⟩:=hr (by intro he;rw[List.map_eq_nil_iff]at he;subst he;simp at hi);have:=hc i (.int .i64 xs[i]) (by simp[hi]);exact⟨b,off,rfl,hz,lt_of_cell this,this⟩
theorem zL.open_{Z:zD}{w:World}{v:Value}{xs:List Int}(h:zL Z w v xs)(hne:xs≠[]):
  ∃b off cap,v= .slice (some ⟨b,off,none⟩) xs.length cap∧Z b∧b<w.heap.size∧xs.length≤cap∧∀j,j<xs.length->w.cell? ⟨b,off+j,none⟩=some (.int .i64 (xs.getD j 0)):=by
 obtain⟨⟨A,cap,rfl,h1,_,_,hr⟩,_⟩:=h;obtain⟨b,off,rfl,hz,hc⟩:=hr (by simpa using hne);have h0:0<xs.length:=List.length_pos_iff.2 hne
 have key:∀j,j<xs.length->w.cell? ⟨b,off+j,none⟩=some (.int .i64 (xs.getD j 0)):=λj hj=>by
  rw[hc j (.int .i64 xs[j]) (by simp[hj])];simp[List.getD,hj]
 exact⟨b,off,cap,rfl,hz,lt_of_cell (key 0 h0),h1,key⟩
theorem zL.len{Z:zD}{w:World}{A:Option Addr}{n cap:Nat}{xs:List Int}(h:zL Z w (.slice A n cap) xs):n=xs.length:=by
 obtain⟨⟨A',cap',e,_⟩,_⟩:=h;injection e
def One(w:World)(B:Nat)(v:Value):Prop:=∃t,w.heap[B]? =some (.cells #[v] t (0,0))
section one
variable {w w':World} {B:Nat} {v:Value}
theorem One.cell(h:One w B v):w.cell? ⟨B,0,none⟩=some v:=by obtain⟨t,h⟩:=h;exact cell_of_one h
theorem One.free(h:One w B v):w.frozen? ⟨B,0,none⟩=false:=by obtain⟨t,h⟩:=h;exact free_of_one h
theorem One.lt(h:One w B v):B<w.heap.size:=by obtain⟨t,h⟩:=h;exact lt_of_block h
theorem One.new(w:World)(v:Value)(t:TypeId):One (w.alloc (.cells #[v] t)) w.heap.size v:=⟨t,heap_alloc_new w _⟩
theorem One.of_block(h:One w B v)(hb:w'.heap[B]? =w.heap[B]?):One w' B v:=by obtain⟨t,h⟩:=h;exact⟨t,hb.trans h⟩
theorem One.keep{Z:zD}(h:One w B v)(hk:zA Z w w')(hz:Z B):One w' B v:=h.of_block (hk.block B h.lt hz)
theorem One.below{C:Nat}(h:One w B v)(hk:Below C w w')(hz:B<C):One w' B v:=h.of_block (hk.block B hz)
theorem One.alloc(h:One w B v)(o:Obj):One (w.alloc o) B v:=h.of_block (Below.heap_alloc _ _ _ h.lt)
theorem One.drew(h:One w B v):One w.drew B v:=h
theorem One.set_(h:One w B v)(u:Value):One (w.setCell ⟨B,0,none⟩ u) B u:=by obtain⟨t,h⟩:=h;exact⟨t,one_setCell h⟩
theorem One.far(h:One w B v){p:Addr}(hp:B≠p.block)(u:Value):One (w.setCell p u) B v:=h.of_block (Below.heap_setCell _ _ _ _ hp)
end one
theorem zOv(Z:zD)(w:World)(n:Nat):zA Z w (w.drewN n):=⟨rfl,rfl,rfl,Nat.le_refl _,λ_ _ _=>rfl⟩
theorem zL.drewN{Z:zD}{w:World}{v:Value}{xs:List Int}(h:zL Z w v xs)(n:Nat):zL Z (w.drewN n) v xs:=h.keep (zOv Z w n)
end Go.Proofs.YtonmdbdopchkaaaGreatDoor
