/- Texts NR A. -/
import Derived.WalkKit
import Derived.Deep.Draws
set_option linter.all false
namespace Go.Proofs.YtimmfbnjndndlaaGreatDoor
open Go.RowKit
theorem nr:(∀(a:Act)(d:Option Tmp)(v:Value),a.put d v=match d with|some d=>{a with tmps:=a.tmps.setIfInBounds d v}|none=>a)∧
  (∀(α:Type)(l:List α)(i:Nat)(x:α),l.toArray.setIfInBounds i x=(l.set i x).toArray)∧(∀(α:Type)(a:α)(l:List α)(i:Nat)(x:α),(a::l).set (i+1) x=a::l.set i x)∧
  ∀(α:Type)(a:α)(l:List α)(x:α),(a::l).set 0 x=x::l:=⟨λ_ _ _=>rfl,λ_ _ _ _=>List.setIfInBounds_toArray ..,λ_ _ _ _ _=>rfl,λ_ _ _ _=>rfl⟩
theorem brd{n:Nat}{w w':World}{p:Addr}{v:Value}(h:Below n w w')(e:w.cell? p=some v)(hl:p.block<n):w'.cell? p=some v:=(h.cell hl).trans e
theorem hid{p:Prop}(h:p):Hid p:=h
abbrev Zone:=Nat->Prop
def Zone.up(Z:Zone)(n:Nat):Zone:=λb=>Z b∨n≤b
structure Keeps (Z:Zone) (w w':World):Prop where
 os:w'.os=w.os
 tape:w'.tape=w.tape
 output:w'.output=w.output
 size:w.heap.size≤w'.heap.size
 block:∀k,k<w.heap.size->Z k->w'.heap[k]? =w.heap[k]?
section keeps
variable {Z Z':Zone} {w w' w'':World}
theorem Keeps.refl(Z:Zone)(w:World):Keeps Z w w:=⟨rfl,rfl,rfl,Nat.le_refl _,λ_ _ _=>rfl⟩
theorem Keeps.trans(h:Keeps Z w w')(k:Keeps Z w' w''):Keeps Z w w'':=
 ⟨k.os.trans h.os,k.tape.trans h.tape,k.output.trans h.output,Nat.le_trans h.size k.size,λi hi hz=>(k.block i (Nat.lt_of_lt_of_le hi h.size) hz).trans (h.block i hi hz)⟩
theorem Keeps.mono(h:Keeps Z w w')(hz:∀b,b<w.heap.size->Z' b->Z b):Keeps Z' w w':=⟨h.os,h.tape,h.output,h.size,λk hk hz'=>h.block k hk (hz k hk hz')⟩
theorem Keeps.of_below(h:Below w.heap.size w w'):Keeps Z w w':=⟨h.os,h.tape,h.output,h.size,λk hk _=>h.block k hk⟩
theorem Keeps.of_below_lt{B:Nat}(h:Below B w w')(hz:∀b,b<w.heap.size->Z b->b<B):Keeps Z w w':=⟨h.os,h.tape,h.output,h.size,λk hk hk'=>h.block k (hz k hk hk')⟩
theorem Keeps.below(h:Keeps (λ_=>True) w w'):Below w.heap.size w w':=⟨h.os,h.tape,h.output,h.size,λk hk=>h.block k hk trivial⟩
theorem Keeps.drew(h:Keeps Z w w'):Keeps Z w w'.drew:=⟨h.os,h.tape,h.output,h.size,h.block⟩
theorem Keeps.drewN(h:Keeps Z w w')(n:Nat):Keeps Z w (w'.drewN n):=⟨h.os,h.tape,h.output,h.size,h.block⟩
theorem Keeps.alloc(h:Keeps Z w w')(o:Obj):Keeps Z w (w'.alloc o):=
 ⟨h.os,h.tape,h.output,Nat.le_trans h.size (by simp),λk hk hz=>(Below.heap_alloc _ _ _ (Nat.lt_of_lt_of_le hk h.size)).trans (h.block k hk hz)⟩
theorem Keeps.setCell(h:Keeps Z w w'){p:Addr}(hp:p.block<w.heap.size->¬Z p.block)(u:Value):Keeps Z w (w'.setCell p u):=
 ⟨h.os,h.tape,h.output,Nat.le_trans h.size (by simp[World.setCell]),λk hk hz=>(Below.heap_setCell _ _ _ _ (λe=>by subst e;exact hp hk hz)).trans (h.block k hk hz)⟩
theorem Keeps.grown{row:Option Nat}(h:Keeps Z w w')(hg:w'.grownBy w'' row)(hr:∀k,row=some k->k<w.heap.size->¬Z k):Keeps Z w w'':=
 ⟨hg.os.trans h.os,hg.tape.trans h.tape,hg.output.trans h.output,Nat.le_trans h.size hg.size,λk hk hz=>
  (hg.block k (Nat.lt_of_lt_of_le hk h.size) (λe=>hr k e.symm hk hz)).trans (h.block k hk hz)⟩
theorem Keeps.cell(h:Keeps Z w w'){p:Addr}{v:Value}(hz:Z p.block)(hc:w.cell? p=some v):w'.cell? p=some v:=by
 have hlt:p.block<w.heap.size:=by
  unfold World.cell? at hc;rcases Nat.lt_or_ge p.block w.heap.size with hlt|hge
  ·exact hlt
  ·rw[Array.getElem?_eq_none hge]at hc;simp at hc
 rw[World.cell?_of_block (w:=w) (h.block p.block hlt hz)];exact hc
end keeps
theorem below_keeps{B:Nat}{w w':World}(h:Below B w w'):Keeps (· <B) w w':=⟨h.os,h.tape,h.output,h.size,λk _ hz=>h.block k hz⟩
theorem keeps_below{B:Nat}{w w':World}(h:Keeps (· <B) w w')(hB:B≤w.heap.size):Below B w w':=⟨h.os,h.tape,h.output,h.size,λk hk=>h.block k (by omega) hk⟩
theorem below_keeps_ne{B b:Nat}{w x w1:World}(h:Below B w x)(hk:Keeps (λc=>c≠b) x w1)(hb:B≤b)(hB:B≤x.heap.size):Below B w w1:=
 h.trans ⟨hk.os,hk.tape,hk.output,hk.size,λk hlt=>hk.block k (by omega) (by omega)⟩
theorem bcell{B:Nat}{W w1:World}(hb:Below B W w1):(∀b o,b<B->w1.cell? ⟨b,o,none⟩=W.cell? ⟨b,o,none⟩)∧(∀b o,b<B->w1.frozen? ⟨b,o,none⟩=W.frozen? ⟨b,o,none⟩):=
 ⟨λb o h=>hb.cell (p:=⟨b,o,none⟩) h,λb o h=>hb.frozen (p:=⟨b,o,none⟩) h⟩
theorem lt_of_cell{w:World}{p:Addr}{v:Value}(hc:w.cell? p=some v):p.block<w.heap.size:=by
 unfold World.cell? at hc;rcases Nat.lt_or_ge p.block w.heap.size with hlt|hge
 ·exact hlt
 ·rw[Array.getElem?_eq_none hge]at hc;simp at hc
theorem cell_alloc{w:World}{p:Addr}{v:Value}(h:w.cell? p=some v)(o:Obj):(w.alloc o).cell? p=some v:=by
 rw[World.cell?_alloc_lt w o p (lt_of_cell h)];exact h
theorem below_drewN'{B:Nat}{a w:World}(h:Below B a w)(n:Nat):Below B a (w.drewN n):=⟨h.os,h.tape,h.output,h.size,h.block⟩
theorem below1(w:World)(o:Obj):Below w.heap.size w (w.alloc o):=(Below.refl _ _).alloc (Nat.le_refl _) o
theorem HBEL_trans{B:Nat}{w w1 w2:World}(h:Below B w w1)(h2:Below w1.heap.size w1 w2)(hB:B≤w.heap.size:=by exact Nat.le_refl _):Below B w w2:=h.trans (h2.mono (Nat.le_trans hB h.size))
def Row(Z:Zone)(w:World)(A:Option Addr)(xs:List Value):Prop:=
 xs≠[]->∃b off,A=some ⟨b,off,none⟩∧Z b∧∀j u,xs[j]? =some u->w.cell? ⟨b,off+j,none⟩=some u
section row
variable {Z Z':Zone} {w w':World} {A:Option Addr} {xs:List Value}
theorem Row.keep(h:Row Z w A xs)(hk:Keeps Z w w'):Row Z w' A xs:=λhne=>by
 obtain⟨b,off,e,hz,hc⟩:=h hne;exact⟨b,off,e,hz,λj u hu=>hk.cell hz (hc j u hu)⟩
theorem Row.mono(h:Row Z w A xs)(hz:∀b,Z b->Z' b):Row Z' w A xs:=λhne=>by
 obtain⟨b,off,e,h1,hc⟩:=h hne;exact⟨b,off,e,hz b h1,hc⟩
theorem Row.nil:Row Z w A []:=λh=>absurd rfl h
end row
def I64(n:Int):Prop:= -9223372036854775808≤n∧n≤9223372036854775807
structure Ints (Z:Zone) (w:World) (v:Value) (xs:List Int):Prop where
 is:∃A cap,v= .slice A xs.length cap∧xs.length≤cap∧cap≤9223372036854775807∧xs.length*8≤140737488355328∧Row Z w A (xs.map (.int .i64))
 fit:∀x∈xs,I64 x
structure FactD where
 name:ByteArray
 kind:Int
 lo:Int
 hi:Int
def FactD.cells(f:FactD):List Value:=[.string f.name,.int .i64 f.kind,.int .i64 f.lo,.int .i64 f.hi]
def FactD.fit(f:FactD):Prop:=f.name.size≤140737488355328∧I64 f.kind∧I64 f.lo∧I64 f.hi
def SeqR{α:Type}(R:List Value->α->Prop)(size:Nat)(Z:Zone)(w:World):List α->Option Addr->Prop
 |[],_=>True
 |k::ks,A=>∃b off cs,A=some ⟨b,off,none⟩∧Z b∧(∀j u,cs[j]? =some u->w.cell? ⟨b,off+j,none⟩=some u)∧R cs k∧SeqR R size Z w ks (some ⟨b,off+size,none⟩)
section seq
variable {α:Type} {R R':List Value->α->Prop} {size:Nat} {Z Z':Zone} {w w':World}
theorem SeqR.imp(hR:∀cs x,R cs x->R' cs x)(hk:Keeps Z w w')(hz:∀b,Z b->Z' b):∀{l:List α}{A:Option Addr},SeqR R size Z w l A->SeqR R' size Z' w' l A
 |[],_,_=>trivial
 | _::_,_,⟨b,off,cs,e,h1,hc,h2,h3⟩=>⟨b,off,cs,e,hz b h1,λj u hu=>hk.cell h1 (hc j u hu),hR _ _ h2,SeqR.imp hR hk hz h3⟩
theorem SeqR.at_:∀{l:List α}{A:Option Addr}(_:SeqR R size Z w l A){i:Nat}(hi:i<l.length),
  ∃b off cs,A=some ⟨b,off,none⟩∧Z b∧(∀j u,cs[j]? =some u->w.cell? ⟨b,off+i*size+j,none⟩=some u)∧R cs l[i]
 | _::_,_,⟨b,off,cs,e,hz,hc,h1,_⟩,0,_=>⟨b,off,cs,e,hz,by simpa using hc,h1⟩
 | _::_,_,⟨b,off,cs,e,hz,hc,_,h2⟩,i+1,hi=>by
  obtain⟨b',off',cs',e',hz',hc',h1'⟩:=SeqR.at_ h2 (i:=i) (by simpa using hi);injection e' with e';injection e' with eb eo;subst eb eo;exact⟨b,off,cs',e,hz,λj u hu=>by have:=hc' j u hu;rwa[show off+size+i*size+j=off+(i+1)*size+j from by rw[Nat.add_mul];omega]at this,by simpa using h1'⟩
theorem SeqR.append{m:List α}{b:Nat}:∀{l:List α}{off:Nat},SeqR R size Z w l (some ⟨b,off,none⟩)->SeqR R size Z w m (some ⟨b,off+l.length*size,none⟩)->SeqR R size Z w (l++m) (some ⟨b,off,none⟩)
 |[],_,_,h=>by simpa using h
 |x::l,off,⟨b',off',cs,e,hz,hc,h1,h2⟩,h=>by
  injection e with e;injection e with eb eo;subst eb eo;refine⟨_,_,cs,rfl,hz,hc,h1,SeqR.append h2 ?_⟩;have e:off+size+l.length*size=off+(x::l).length *size:=by rw[List.length_cons,Nat.add_mul];omega
  rw[e];exact h
end seq
structure Facts (Z:Zone) (w:World) (v:Value) (xs:List FactD):Prop where
 is:∃A cap,v= .slice A xs.length cap∧xs.length≤cap∧cap≤9223372036854775807∧xs.length*40≤140737488355328∧SeqR (λcs x=>cs=FactD.cells x) 4 Z w xs A
 fit:∀x∈xs,x.fit
structure NodeD where
 leaf:Bool
 fact:Int
 cuts:List Int
 kids:List Int
deriving DecidableEq
def NodeR(Z:Zone)(w:World)(cs:List Value)(n:NodeD):Prop:=
 ∃vc vk,cs=[.bool n.leaf,.int .i64 n.fact,vc,vk]∧I64 n.fact∧Ints Z w vc n.cuts∧Ints Z w vk n.kids
def Nodes(Z:Zone)(w:World)(v:Value)(ns:List NodeD):Prop:=
 ∃A cap,v= .slice A ns.length cap∧ns.length≤cap∧cap≤9223372036854775807∧ns.length*64≤140737488355328∧SeqR (NodeR Z w) 4 Z w ns A
inductive Fm where
 |mk (op:Int) (name:ByteArray) (cmp n:Int) (kids:List Fm)
mutual
def FmR(Z:Zone)(w:World):Fm->List Value->Prop
 | .mk op nm c n kids,cs=>I64 op∧nm.size≤140737488355328∧I64 c∧I64 n∧∃A cap,cs=[.int .i64 op,.string nm,.int .i64 c,.int .i64 n,.slice A kids.length cap]∧kids.length≤cap∧cap≤9223372036854775807∧kids.length*56≤140737488355328∧FmsR Z w kids A
def FmsR(Z:Zone)(w:World):List Fm->Option Addr->Prop
 |[],_=>True
 |k::ks,A=>∃b off cs,A=some ⟨b,off,none⟩∧Z b∧(∀j u,cs[j]? =some u->w.cell? ⟨b,off+j,none⟩=some u)∧FmR Z w k cs∧FmsR Z w ks (some ⟨b,off+5,none⟩)
end
section keep
variable {Z Z':Zone} {w w':World} {v:Value}
theorem Ints.keep{xs:List Int}(h:Ints Z w v xs)(hk:Keeps Z w w'):Ints Z w' v xs:=by
 obtain⟨⟨A,cap,e,h1,h2,h2b,hr⟩,hf⟩:=h;exact⟨⟨A,cap,e,h1,h2,h2b,hr.keep hk⟩,hf⟩
theorem Ints.mono{xs:List Int}(h:Ints Z w v xs)(hz:∀b,Z b->Z' b):Ints Z' w v xs:=by
 obtain⟨⟨A,cap,e,h1,h2,h2b,hr⟩,hf⟩:=h;exact⟨⟨A,cap,e,h1,h2,h2b,hr.mono hz⟩,hf⟩
theorem Facts.keep{xs:List FactD}(h:Facts Z w v xs)(hk:Keeps Z w w'):Facts Z w' v xs:=by
 obtain⟨⟨A,cap,e,h1,h2,h2b,hr⟩,hf⟩:=h;exact⟨⟨A,cap,e,h1,h2,h2b,hr.imp (λ_ _ h=>h) hk (λ_ h=>h)⟩,hf⟩
theorem Facts.mono{xs:List FactD}(h:Facts Z w v xs)(hz:∀b,Z b->Z' b):Facts Z' w v xs:=by
 obtain⟨⟨A,cap,e,h1,h2,h2b,hr⟩,hf⟩:=h;exact⟨⟨A,cap,e,h1,h2,h2b,hr.imp (λ_ _ h=>h) (Keeps.refl _ _) hz⟩,hf⟩
theorem NodeR.keep{cs:List Value}{n:NodeD}(h:NodeR Z w cs n)(hk:Keeps Z w w'):NodeR Z w' cs n:=by
 obtain⟨vc,vk,e,hf,h1,h2⟩:=h;exact⟨vc,vk,e,hf,h1.keep hk,h2.keep hk⟩
theorem NodeR.mono{cs:List Value}{n:NodeD}(h:NodeR Z w cs n)(hz:∀b,Z b->Z' b):NodeR Z' w cs n:=by
 obtain⟨vc,vk,e,hf,h1,h2⟩:=h;exact⟨vc,vk,e,hf,h1.mono hz,h2.mono hz⟩
theorem Nodes.keep{ns:List NodeD}(h:Nodes Z w v ns)(hk:Keeps Z w w'):Nodes Z w' v ns:=by
 obtain⟨A,cap,e,h1,h2,h2b,h3⟩:=h;exact⟨A,cap,e,h1,h2,h2b,h3.imp (λ_ _ h=>h.keep hk) hk (λ_ h=>h)⟩
theorem Nodes.mono{ns:List NodeD}(h:Nodes Z w v ns)(hz:∀b,Z b->Z' b):Nodes Z' w v ns:=by
 obtain⟨A,cap,e,h1,h2,h2b,h3⟩:=h;exact⟨A,cap,e,h1,h2,h2b,h3.imp (λ_ _ h=>h.mono hz) (Keeps.refl _ _) hz⟩
mutual
theorem FmR.keep(hk:Keeps Z w w'):∀(f:Fm)(cs:List Value),FmR Z w f cs->FmR Z w' f cs
 | .mk op nm c n kids,cs,h=>by
  unfold FmR at h⊢;obtain⟨h1,h2,h3,h4,A,cap,e,h5,h6,h6b,h7⟩:=h;exact⟨h1,h2,h3,h4,A,cap,e,h5,h6,h6b,FmsR.keep hk kids A h7⟩
theorem FmsR.keep(hk:Keeps Z w w'):∀(l:List Fm)(A:Option Addr),FmsR Z w l A->FmsR Z w' l A
 |[],_,_=>by unfold FmsR;trivial
 |k::ks,A,h=>by
  unfold FmsR at h⊢;obtain⟨b,off,cs,e,hz,hc,h1,h2⟩:=h;exact⟨b,off,cs,e,hz,λj u hu=>hk.cell hz (hc j u hu),FmR.keep hk k cs h1,FmsR.keep hk ks _ h2⟩
end
mutual
theorem FmR.mono(hz:∀b,Z b->Z' b):∀(f:Fm)(cs:List Value),FmR Z w f cs->FmR Z' w f cs
 | .mk op nm c n kids,cs,h=>by
  unfold FmR at h⊢;obtain⟨h1,h2,h3,h4,A,cap,e,h5,h6,h6b,h7⟩:=h;exact⟨h1,h2,h3,h4,A,cap,e,h5,h6,h6b,FmsR.mono hz kids A h7⟩
theorem FmsR.mono(hz:∀b,Z b->Z' b):∀(l:List Fm)(A:Option Addr),FmsR Z w l A->FmsR Z' w l A
 |[],_,_=>by unfold FmsR;trivial
 |k::ks,A,h=>by
  unfold FmsR at h⊢;obtain⟨b,off,cs,e,hb,hc,h1,h2⟩:=h;exact⟨b,off,cs,e,hz b hb,hc,FmR.mono hz k cs h1,FmsR.mono hz ks _ h2⟩
end
end keep
theorem FmsR.at_{Z:Zone}{w:World}:∀{l:List Fm}{A:Option Addr}(_:FmsR Z w l A){i:Nat}(hi:i<l.length),
  ∃b off cs,A=some ⟨b,off,none⟩∧Z b∧(∀j u,cs[j]? =some u->w.cell? ⟨b,off+i*5+j,none⟩=some u)∧FmR Z w l[i] cs
 |k::ks,A,h,0,_=>by
  unfold FmsR at h;obtain⟨b,off,cs,e,hz,hc,h1,_⟩:=h;exact⟨b,off,cs,e,hz,by simpa using hc,h1⟩
 |k::ks,A,h,i+1,hi=>by
  unfold FmsR at h;obtain⟨b,off,cs,e,hz,hc,_,h2⟩:=h;obtain⟨b',off',cs',e',hz',hc',h1'⟩:=FmsR.at_ h2 (i:=i) (by simpa using hi);injection e' with e';injection e' with eb eo;subst eb eo;exact⟨b,off,cs',e,hz,λj u hu=>by have:=hc' j u hu;rwa[show off+5+i*5+j=off+(i+1)*5+j from by omega]at this,by simpa using h1'⟩
theorem FmR.size{Z:Zone}{w:World}{f:Fm}{cs:List Value}(h:FmR Z w f cs):cs.length=5:=by
 obtain⟨op,nm,c,n,kids⟩:=f;unfold FmR at h;obtain⟨_,_,_,_,A,cap,e,_⟩:=h;subst e;rfl
theorem fact_cells{w:World}{b o:Nat}{f:FactD}(hc:∀j u,(FactD.cells f)[j]? =some u->w.cell? ⟨b,o+j,none⟩=some u):
  w.cell? ⟨b,o,none⟩=some (.string f.name)∧w.cell? ⟨b,o+1,none⟩=some (.int .i64 f.kind)∧w.cell? ⟨b,o+2,none⟩=some (.int .i64 f.lo)∧w.cell? ⟨b,o+3,none⟩=some (.int .i64 f.hi):=
 ⟨hc 0 _ rfl,hc 1 _ rfl,hc 2 _ rfl,hc 3 _ rfl⟩
theorem four_cells{w:World}{b o:Nat}{v0 v1 v2 v3:Value}(hc:∀j u,[v0,v1,v2,v3][j]? =some u->w.cell? ⟨b,o+j,none⟩=some u):
  w.cell? ⟨b,o,none⟩=some v0∧w.cell? ⟨b,o+1,none⟩=some v1∧w.cell? ⟨b,o+2,none⟩=some v2∧w.cell? ⟨b,o+3,none⟩=some v3:=
 ⟨hc 0 _ rfl,hc 1 _ rfl,hc 2 _ rfl,hc 3 _ rfl⟩
theorem five_cells{w:World}{b o:Nat}{v0 v1 v2 v3 v4:Value}(hc:∀j u,[v0,v1,v2,v3,v4][j]? =some u->w.cell? ⟨b,o+j,none⟩=some u):
  w.cell? ⟨b,o,none⟩=some v0∧w.cell? ⟨b,o+1,none⟩=some v1∧w.cell? ⟨b,o+2,none⟩=some v2∧w.cell? ⟨b,o+3,none⟩=some v3∧w.cell? ⟨b,o+4,none⟩=some v4:=
 ⟨hc 0 _ rfl,hc 1 _ rfl,hc 2 _ rfl,hc 3 _ rfl,hc 4 _ rfl⟩
theorem cells_below{B:Nat}{w w':World}(h:Below B w w'){b o:Nat}{cs:List Value}(hb:b<B)(hc:∀j u,cs[j]? =some u->w.cell? ⟨b,o+j,none⟩=some u):
  ∀j u,cs[j]? =some u->w'.cell? ⟨b,o+j,none⟩=some u:=λj u hu=>(h.cell (p:=⟨b,o+j,none⟩) hb).trans (hc j u hu)
theorem FmsR.seq{Z:Zone}{w:World}:∀{l:List Fm}{A:Option Addr},FmsR Z w l A->SeqR (λcs f=>FmR Z w f cs) 5 Z w l A
 |[],_,_=>trivial
 | _::_,_,h=>by
  unfold FmsR at h;obtain⟨b,off,cs,e,hz,hc,h1,h2⟩:=h;exact⟨b,off,cs,e,hz,hc,h1,FmsR.seq h2⟩
theorem FmsR.of_seq{Z:Zone}{w:World}:∀{l:List Fm}{A:Option Addr},SeqR (λcs f=>FmR Z w f cs) 5 Z w l A->FmsR Z w l A
 |[],_,_=>by unfold FmsR;trivial
 | _::_,_,⟨b,off,cs,e,hz,hc,h1,h2⟩=>by
  unfold FmsR;exact⟨b,off,cs,e,hz,hc,h1,FmsR.of_seq h2⟩
def firstIdx(p:Nat->Bool):(n:Nat)->(i:Nat)->Int
 |0,_=> -1
 |n+1,i=>if p i then i else firstIdx p n (i+1)
theorem firstIdx_hit{p:Nat->Bool}:∀{n i k:Nat},(∀j,i≤j->j<k->p j=false)->i≤k->k<i+n->p k=true->firstIdx p n i=k
 |0,i,k,_,h1,h2,_=>by omega
 |n+1,i,k,h,h1,h2,hp=>by
  unfold firstIdx;by_cases e:i=k
  ·subst e;rw[if_pos hp]
  ·rw[if_neg (by rw[h i (Nat.le_refl _) (by omega)];simp),firstIdx_hit (λj a b=>h j (by omega) b) (by omega) (by omega) hp]
theorem firstIdx_miss{p:Nat->Bool}:∀{n i:Nat},(∀j,i≤j->j<i+n->p j=false)->firstIdx p n i= -1
 |0,_,_=>rfl
 |n+1,i,h=>by
  unfold firstIdx;rw[if_neg (by rw[h i (Nat.le_refl _) (by omega)];simp),firstIdx_miss (λj a b=>h j (by omega) (by omega))]
theorem firstIdx_spec(p:Nat->Bool)(n i:Nat):(∃k,i≤k∧k<i+n∧p k=true∧(∀j,i≤j->j<k->p j=false)∧firstIdx p n i=k)∨((∀j,i≤j->j<i+n->p j=false)∧firstIdx p n i= -1):=by
 induction n generalizing i with
 |zero=>exact .inr ⟨λj a b=>by omega,rfl⟩
 |succ n ih=>
  unfold firstIdx;by_cases hp:p i=true
  ·rw[if_pos hp];exact .inl ⟨i,Nat.le_refl _,by omega,hp,λj a b=>by omega,rfl⟩
  ·rw[if_neg hp];rcases ih (i+1)with⟨k,h1,h2,h3,h4,h5⟩|⟨h1,h2⟩
   ·exact .inl ⟨k,by omega,by omega,h3,λj a b=>by
     by_cases e:j=i
     ·subst e;simpa using hp
     ·exact h4 j (by omega) b,h5⟩
   ·exact .inr ⟨λj a b=>by
     by_cases e:j=i
     ·subst e;simpa using hp
     ·exact h1 j (by omega) (by omega),h2⟩
def PredF{α:Type}(P:Program)(g:FuncId)(lb:Array Value)(R:List Value->α->Prop)(w:World)(xs:List α)(p:Nat->Bool):Prop:=
 ∀i(hi:i<xs.length) cs,R cs xs[i]->∀W,Below w.heap.size w W->Calls P g (#[.agg cs.toArray]++lb) W λe W'=>e= .returned (.bool (p i))∧Below W.heap.size W W'
theorem Row.of_own{w:World}{base:Nat}{e:TypeId}{v:Value}{n size:Nat}{xs:List Value}(h:w.ownsRow base e size v n xs)(_hs:0<size):
  ∃A cap,v= .slice A n cap∧n≤cap∧cap≤maxLen∧Row (λb=>base≤b) w A xs:=by
 have hlen:=h.1;rcases h.2 with⟨rfl,rfl⟩|⟨g,cap,cur,rfl,hb,hg,hn,hm,hsz,htk⟩
 ·exact⟨none,0,rfl,Nat.le_refl _,by simp[maxLen],λhne=>absurd (List.eq_nil_of_length_eq_zero (by simpa using hlen)) hne⟩
 ·refine⟨some ⟨g,0,none⟩,cap,rfl,hn,hm,λ_=>⟨g,0,rfl,hb,λj u hu=> ?_⟩⟩;have:=h.cells (g:=g) rfl j u hu;rwa[show(⟨g,0,none⟩:Addr).add j=⟨g,0+j,none⟩ from by unfold Addr.add;split<;>simp_all]at this
theorem Ints.of_own{w:World}{base:Nat}{e:TypeId}{v:Value}{n:Nat}{xs:List Int}(h:w.ownsRow base e 1 v n (xs.map (.int .i64)))(hf:∀x∈xs,I64 x)(hl:xs.length*8≤140737488355328):Ints (λb=>base≤b) w v xs:=by
 have hn:xs.length=n:=by have:=h.1;simpa using this
 subst hn;obtain⟨A,cap,e,h1,h2,h3⟩:=Row.of_own h (by omega);exact⟨⟨A,cap,e,h1,by simpa[maxLen]using h2,hl,h3⟩,hf⟩
theorem Ints.nil(Z:Zone)(w:World):Ints Z w (.slice none 0 0) []:=⟨⟨none,0,rfl,Nat.le_refl _,by omega,by simp,Row.nil⟩,by simp⟩
theorem Ints.at_{Z:Zone}{w:World}{A:Option Addr}{cap n:Nat}{xs:List Int}(h:Ints Z w (.slice A n cap) xs){i:Nat}(hi:i<xs.length):
  ∃b off,A=some ⟨b,off,none⟩∧Z b∧b<w.heap.size∧w.cell? ⟨b,off+i,none⟩=some (.int .i64 xs[i]):=by
 obtain⟨⟨A',cap',e,_,_,_,hr⟩,_⟩:=h;injection e with e1 e2 e3;subst e1;obtain⟨b,off,rfl,hz,hc⟩:=hr (by intro he;rw[List.map_eq_nil_iff]at he;subst he;simp at hi);have:=hc i (.int .i64 xs[i]) (by simp[hi]);exact⟨b,off,rfl,hz,lt_of_cell this,this⟩
theorem Ints.open_{Z:Zone}{w:World}{v:Value}{xs:List Int}(h:Ints Z w v xs)(hne:xs≠[]):
  ∃b off cap,v= .slice (some ⟨b,off,none⟩) xs.length cap∧Z b∧b<w.heap.size∧xs.length≤cap∧∀j,j<xs.length->w.cell? ⟨b,off+j,none⟩=some (.int .i64 (xs.getD j 0)):=by
 obtain⟨⟨A,cap,rfl,h1,_,_,hr⟩,_⟩:=h;obtain⟨b,off,rfl,hz,hc⟩:=hr (by simpa using hne);have h0:0<xs.length:=List.length_pos_iff.2 hne
 have key:∀j,j<xs.length->w.cell? ⟨b,off+j,none⟩=some (.int .i64 (xs.getD j 0)):=λj hj=>by
  rw[hc j (.int .i64 xs[j]) (by simp[hj])];simp[List.getD,hj]
 exact⟨b,off,cap,rfl,hz,lt_of_cell (key 0 h0),h1,key⟩
theorem Ints.len{Z:Zone}{w:World}{A:Option Addr}{n cap:Nat}{xs:List Int}(h:Ints Z w (.slice A n cap) xs):n=xs.length:=by
 obtain⟨⟨A',cap',e,_⟩,_⟩:=h;injection e
def One(w:World)(B:Nat)(v:Value):Prop:=∃t,w.heap[B]? =some (.cells #[v] t (0,0))
section one
variable {w w':World} {B:Nat} {v:Value}
theorem One.cell(h:One w B v):w.cell? ⟨B,0,none⟩=some v:=by obtain⟨t,h⟩:=h;exact cell_of_one h
theorem One.free(h:One w B v):w.frozen? ⟨B,0,none⟩=false:=by obtain⟨t,h⟩:=h;exact free_of_one h
theorem One.lt(h:One w B v):B<w.heap.size:=by obtain⟨t,h⟩:=h;exact lt_of_block h
theorem One.new(w:World)(v:Value)(t:TypeId):One (w.alloc (.cells #[v] t)) w.heap.size v:=⟨t,heap_alloc_new w _⟩
theorem One.of_block(h:One w B v)(hb:w'.heap[B]? =w.heap[B]?):One w' B v:=by obtain⟨t,h⟩:=h;exact⟨t,hb.trans h⟩
theorem One.keep{Z:Zone}(h:One w B v)(hk:Keeps Z w w')(hz:Z B):One w' B v:=h.of_block (hk.block B h.lt hz)
theorem One.below{C:Nat}(h:One w B v)(hk:Below C w w')(hz:B<C):One w' B v:=h.of_block (hk.block B hz)
theorem One.alloc(h:One w B v)(o:Obj):One (w.alloc o) B v:=h.of_block (Below.heap_alloc _ _ _ h.lt)
theorem One.drew(h:One w B v):One w.drew B v:=h
theorem One.set_(h:One w B v)(u:Value):One (w.setCell ⟨B,0,none⟩ u) B u:=by obtain⟨t,h⟩:=h;exact⟨t,one_setCell h⟩
theorem One.far(h:One w B v){p:Addr}(hp:B≠p.block)(u:Value):One (w.setCell p u) B v:=h.of_block (Below.heap_setCell _ _ _ _ hp)
end one
theorem keeps_drewN(Z:Zone)(w:World)(n:Nat):Keeps Z w (w.drewN n):=⟨rfl,rfl,rfl,Nat.le_refl _,λ_ _ _=>rfl⟩
theorem Ints.drewN{Z:Zone}{w:World}{v:Value}{xs:List Int}(h:Ints Z w v xs)(n:Nat):Ints Z (w.drewN n) v xs:=h.keep (keeps_drewN Z w n)
end Go.Proofs.YtimmfbnjndndlaaGreatDoor
