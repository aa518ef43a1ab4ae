/- Representation of the program's data in memory: zones of blocks, rows of cells, lists of numbers, facts, nodes and formulas; each is kept by whatever keeps the zone. No program in sight. From what an argument reads as to this work's own words: a slice of numbers, facts, nodes, a formula. Any program whose types are laid out so. A guarded operation without a fork: what it yields is kept behind its guard. Over any program. Blocks that are known whole: load and store of all their cells. Over any program. Append of one element onto a row of the call's own. Over any program. Plain functions on texts and numbers that the walks speak of. No program in sight. -/
import Derived.WalkKit
import Derived.Deep.Draws
import Derived.ChangeArms
import Derived.SizedLaws
import Derived.Deep.Slices
import Derived.OpenShut
import Derived.Deep.MidRow
import Derived.Maps.AppendAt
/- Representation of the program's data in memory: zones of blocks, rows of cells, lists of numbers, facts, nodes and formulas; each is kept by whatever keeps the zone. No program in sight. -/
namespace Go.Proofs.YtcigjmlileckhaaGreatDoor
open Go.RowKit
theorem nrA {α : Type} (l : List α) (i : Nat) (x : α) : l.toArray.setIfInBounds i x = (l.set i x).toArray := List.setIfInBounds_toArray ..
theorem nrB {α : Type} (a : α) (l : List α) (i : Nat) (x : α) : (a :: l).set (i + 1) x = a :: l.set i x := rfl
theorem nrC {α : Type} (a : α) (l : List α) (x : α) : (a :: l).set 0 x = x :: l := rfl
theorem hid {p : Prop} (h : p) : Hid p := h
abbrev Zone := Nat → Prop
def Zone.up (Z : Zone) (n : Nat) : Zone := fun b => Z b ∨ n ≤ b
/-- What lies in the zone is as it was. -/
structure Keeps (Z : Zone) (w w' : World) : Prop where
 os : w'.os = w.os
 tape : w'.tape = w.tape
 output : w'.output = w.output
 size : w.heap.size ≤ w'.heap.size
 block : ∀ k, k < w.heap.size → Z k → w'.heap[k]? = w.heap[k]?
section keeps
variable {Z Z' : Zone} {w w' w'' : World}
theorem Keeps.refl (Z : Zone) (w : World) : Keeps Z w w := ⟨rfl, rfl, rfl, Nat.le_refl _, fun _ _ _ => rfl⟩
theorem Keeps.trans (h : Keeps Z w w') (k : Keeps Z w' w'') : Keeps Z w w'' :=
 ⟨k.os.trans h.os, k.tape.trans h.tape, k.output.trans h.output, Nat.le_trans h.size k.size, fun i hi hz => (k.block i (Nat.lt_of_lt_of_le hi h.size) hz).trans (h.block i hi hz)⟩
theorem Keeps.mono (h : Keeps Z w w') (hz : ∀ b, b < w.heap.size → Z' b → Z b) : Keeps Z' w w' := ⟨h.os, h.tape, h.output, h.size, fun k hk hz' => h.block k hk (hz k hk hz')⟩
theorem Keeps.of_below (h : Below w.heap.size w w') : Keeps Z w w' := ⟨h.os, h.tape, h.output, h.size, fun k hk _ => h.block k hk⟩
theorem Keeps.of_below_lt {B : Nat} (h : Below B w w') (hz : ∀ b, b < w.heap.size → Z b → b < B) : Keeps Z w w' := ⟨h.os, h.tape, h.output, h.size, fun k hk hk' => h.block k (hz k hk hk')⟩
theorem Keeps.below (h : Keeps (fun _ => True) w w') : Below w.heap.size w w' := ⟨h.os, h.tape, h.output, h.size, fun k hk => h.block k hk trivial⟩
theorem Keeps.drew (h : Keeps Z w w') : Keeps Z w w'.drew := ⟨h.os, h.tape, h.output, h.size, h.block⟩
theorem Keeps.drewN (h : Keeps Z w w') (n : Nat) : Keeps Z w (w'.drewN n) := ⟨h.os, h.tape, h.output, h.size, h.block⟩
theorem Keeps.alloc (h : Keeps Z w w') (o : Obj) : Keeps Z w (w'.alloc o) :=
 ⟨h.os, h.tape, h.output, Nat.le_trans h.size (by simp), fun k hk hz => (Below.heap_alloc _ _ _ (Nat.lt_of_lt_of_le hk h.size)).trans (h.block k hk hz)⟩
theorem Keeps.setCell (h : Keeps Z w w') {p : Addr} (hp : p.block < w.heap.size → ¬ Z p.block) (u : Value) : Keeps Z w (w'.setCell p u) :=
 ⟨h.os, h.tape, h.output, Nat.le_trans h.size (by simp [World.setCell]), fun k hk hz => (Below.heap_setCell _ _ _ _ (fun e => by subst e; exact hp hk hz)).trans (h.block k hk hz)⟩
theorem Keeps.grown {row : Option Nat} (h : Keeps Z w w') (hg : w'.grownBy w'' row) (hr : ∀ k, row = some k → k < w.heap.size → ¬ Z k) : Keeps Z w w'' :=
 ⟨hg.os.trans h.os, hg.tape.trans h.tape, hg.output.trans h.output, Nat.le_trans h.size hg.size, fun k hk hz =>
  (hg.block k (Nat.lt_of_lt_of_le hk h.size) (fun e => hr k e.symm hk hz)).trans (h.block k hk hz)⟩
theorem Keeps.cell (h : Keeps Z w w') {p : Addr} {v : Value} (hz : Z p.block) (hc : w.cell? p = some v) : w'.cell? p = some v := by
 have hlt : p.block < w.heap.size := by
  unfold World.cell? at hc
  rcases Nat.lt_or_ge p.block w.heap.size with hlt | hge
  ·exact hlt
  ·rw [Array.getElem?_eq_none hge] at hc; simp at hc
 rw [World.cell?_of_block (w := w) (h.block p.block hlt hz)]; exact hc
end keeps
theorem below_keeps {B : Nat} {w w' : World} (h : Below B w w') : Keeps (· < B) w w' := ⟨h.os, h.tape, h.output, h.size, fun k _ hz => h.block k hz⟩
theorem keeps_below {B : Nat} {w w' : World} (h : Keeps (· < B) w w') (hB : B ≤ w.heap.size) : Below B w w' := ⟨h.os, h.tape, h.output, h.size, fun k hk => h.block k (by omega) hk⟩
theorem below_keeps_ne {B b : Nat} {w x w1 : World} (h : Below B w x) (hk : Keeps (fun c => c ≠ b) x w1) (hb : B ≤ b) (hB : B ≤ x.heap.size) : Below B w w1 :=
 h.trans ⟨hk.os, hk.tape, hk.output, hk.size, fun k hlt => hk.block k (by omega) (by omega)⟩
/-- The rules by which a walk reads behind a contract. -/
theorem bcell {B : Nat} {W w1 : World} (hb : Below B W w1) : (∀ b o, b < B → w1.cell? ⟨b, o, none⟩ = W.cell? ⟨b, o, none⟩) ∧ (∀ b o, b < B → w1.frozen? ⟨b, o, none⟩ = W.frozen? ⟨b, o, none⟩) :=
 ⟨fun b o h => hb.cell (p := ⟨b, o, none⟩) h, fun b o h => hb.frozen (p := ⟨b, o, none⟩) h⟩
theorem lt_of_cell {w : World} {p : Addr} {v : Value} (hc : w.cell? p = some v) : p.block < w.heap.size := by
 unfold World.cell? at hc
 rcases Nat.lt_or_ge p.block w.heap.size with hlt | hge
 ·exact hlt
 ·rw [Array.getElem?_eq_none hge] at hc; simp at hc
theorem cell_alloc {w : World} {p : Addr} {v : Value} (h : w.cell? p = some v) (o : Obj) : (w.alloc o).cell? p = some v := by
 rw [World.cell?_alloc_lt w o p (lt_of_cell h)]; exact h
theorem below_drewN' {B : Nat} {a w : World} (h : Below B a w) (n : Nat) : Below B a (w.drewN n) := ⟨h.os, h.tape, h.output, h.size, h.block⟩
theorem below1 (w : World) (o : Obj) : Below w.heap.size w (w.alloc o) := (Below.refl _ _).alloc (Nat.le_refl _) o
theorem HBEL_trans {B : Nat} {w w1 w2 : World} (h : Below B w w1) (h2 : Below w1.heap.size w1 w2) (hB : B ≤ w.heap.size := by exact Nat.le_refl _) : Below B w w2 := h.trans (h2.mono (Nat.le_trans hB h.size))
/-- A row of cells in the zone. -/
def Row (Z : Zone) (w : World) (A : Option Addr) (xs : List Value) : Prop :=
 xs ≠ [] → ∃ b off, A = some ⟨b, off, none⟩ ∧ Z b ∧ ∀ j u, xs[j]? = some u → w.cell? ⟨b, off + j, none⟩ = some u
section row
variable {Z Z' : Zone} {w w' : World} {A : Option Addr} {xs : List Value}
theorem Row.keep (h : Row Z w A xs) (hk : Keeps Z w w') : Row Z w' A xs := fun hne => by
 obtain ⟨b, off, e, hz, hc⟩ := h hne
 exact ⟨b, off, e, hz, fun j u hu => hk.cell hz (hc j u hu)⟩
theorem Row.mono (h : Row Z w A xs) (hz : ∀ b, Z b → Z' b) : Row Z' w A xs := fun hne => by
 obtain ⟨b, off, e, h1, hc⟩ := h hne
 exact ⟨b, off, e, hz b h1, hc⟩
theorem Row.nil : Row Z w A [] := fun h => absurd rfl h
end row
def I64 (n : Int) : Prop := -9223372036854775808 ≤ n ∧ n ≤ 9223372036854775807
/-- A slice of numbers. -/
structure Ints (Z : Zone) (w : World) (v : Value) (xs : List Int) : Prop where
 is : ∃ A cap, v = .slice A xs.length cap ∧ xs.length ≤ cap ∧ cap ≤ 9223372036854775807 ∧ xs.length * 8 ≤ 140737488355328 ∧ Row Z w A (xs.map (.int .i64))
 fit : ∀ x ∈ xs, I64 x
structure FactD where
 name : ByteArray
 kind : Int
 lo : Int
 hi : Int
def FactD.cells (f : FactD) : List Value := [.string f.name, .int .i64 f.kind, .int .i64 f.lo, .int .i64 f.hi]
def FactD.fit (f : FactD) : Prop := f.name.size ≤ 140737488355328 ∧ I64 f.kind ∧ I64 f.lo ∧ I64 f.hi
/-- Things of some cells each, one behind the other. -/
def SeqR {α : Type} (R : List Value → α → Prop) (size : Nat) (Z : Zone) (w : World) : List α → Option Addr → Prop
 | [], _ => True
 | k :: ks, A => ∃ b off cs, A = some ⟨b, off, none⟩ ∧ Z b ∧ (∀ j u, cs[j]? = some u → w.cell? ⟨b, off + j, none⟩ = some u) ∧ R cs k ∧ SeqR R size Z w ks (some ⟨b, off + size, none⟩)
section seq
variable {α : Type} {R R' : List Value → α → Prop} {size : Nat} {Z Z' : Zone} {w w' : World}
theorem SeqR.imp (hR : ∀ cs x, R cs x → R' cs x) (hk : Keeps Z w w') (hz : ∀ b, Z b → Z' b) : ∀ {l : List α} {A : Option Addr}, SeqR R size Z w l A → SeqR R' size Z' w' l A
 | [], _, _ => trivial
 | _ :: _, _, ⟨b, off, cs, e, h1, hc, h2, h3⟩ => ⟨b, off, cs, e, hz b h1, fun j u hu => hk.cell h1 (hc j u hu), hR _ _ h2, SeqR.imp hR hk hz h3⟩
theorem SeqR.at_ : ∀ {l : List α} {A : Option Addr} (_ : SeqR R size Z w l A) {i : Nat} (hi : i < l.length),
  ∃ b off cs, A = some ⟨b, off, none⟩ ∧ Z b ∧ (∀ j u, cs[j]? = some u → w.cell? ⟨b, off + i * size + j, none⟩ = some u) ∧ R cs l[i]
 | _ :: _, _, ⟨b, off, cs, e, hz, hc, h1, _⟩, 0, _ => ⟨b, off, cs, e, hz, by simpa using hc, h1⟩
 | _ :: _, _, ⟨b, off, cs, e, hz, hc, _, h2⟩, i + 1, hi => by
  obtain ⟨b', off', cs', e', hz', hc', h1'⟩ := SeqR.at_ h2 (i := i) (by simpa using hi)
  injection e' with e'
  injection e' with eb eo
  subst eb eo
  exact ⟨b, off, cs', e, hz, fun j u hu => by have := hc' j u hu; rwa [show off + size + i * size + j = off + (i + 1) * size + j from by rw [Nat.add_mul]; omega] at this, by simpa using h1'⟩
theorem SeqR.append {m : List α} {b : Nat} : ∀ {l : List α} {off : Nat}, SeqR R size Z w l (some ⟨b, off, none⟩) → SeqR R size Z w m (some ⟨b, off + l.length * size, none⟩) → SeqR R size Z w (l ++ m) (some ⟨b, off, none⟩)
 | [], _, _, h => by simpa using h
 | x :: l, off, ⟨b', off', cs, e, hz, hc, h1, h2⟩, h => by
  injection e with e
  injection e with eb eo
  subst eb eo
  refine ⟨_, _, cs, rfl, hz, hc, h1, SeqR.append h2 ?_⟩
  have e : off + size + l.length * size = off + (x :: l).length * size := by rw [List.length_cons, Nat.add_mul]; omega
  rw [e]; exact h
end seq
/-- A slice of facts (a domain's one cell). -/
structure Facts (Z : Zone) (w : World) (v : Value) (xs : List FactD) : Prop where
 is : ∃ A cap, v = .slice A xs.length cap ∧ xs.length ≤ cap ∧ cap ≤ 9223372036854775807 ∧ xs.length * 40 ≤ 140737488355328 ∧ SeqR (fun cs x => cs = FactD.cells x) 4 Z w xs A
 fit : ∀ x ∈ xs, x.fit
structure NodeD where
 leaf : Bool
 fact : Int
 cuts : List Int
 kids : List Int
deriving DecidableEq
/-- A node's four cells. -/
def NodeR (Z : Zone) (w : World) (cs : List Value) (n : NodeD) : Prop :=
 ∃ vc vk, cs = [.bool n.leaf, .int .i64 n.fact, vc, vk] ∧ I64 n.fact ∧ Ints Z w vc n.cuts ∧ Ints Z w vk n.kids
/-- A slice of nodes. -/
def Nodes (Z : Zone) (w : World) (v : Value) (ns : List NodeD) : Prop :=
 ∃ A cap, v = .slice A ns.length cap ∧ ns.length ≤ cap ∧ cap ≤ 9223372036854775807 ∧ ns.length * 64 ≤ 140737488355328 ∧ SeqR (NodeR Z w) 4 Z w ns A
inductive Fm where
 | mk (op : Int) (name : ByteArray) (cmp n : Int) (kids : List Fm)
mutual
/-- A formula's five cells. -/
def FmR (Z : Zone) (w : World) : Fm → List Value → Prop
 | .mk op nm c n kids, cs => I64 op ∧ nm.size ≤ 140737488355328 ∧ I64 c ∧ I64 n ∧ ∃ A cap, cs = [.int .i64 op, .string nm, .int .i64 c, .int .i64 n, .slice A kids.length cap] ∧ kids.length ≤ cap ∧ cap ≤ 9223372036854775807 ∧ kids.length * 56 ≤ 140737488355328 ∧ FmsR Z w kids A
/-- Formulas one behind the other. -/
def FmsR (Z : Zone) (w : World) : List Fm → Option Addr → Prop
 | [], _ => True
 | k :: ks, A => ∃ b off cs, A = some ⟨b, off, none⟩ ∧ Z b ∧ (∀ j u, cs[j]? = some u → w.cell? ⟨b, off + j, none⟩ = some u) ∧ FmR Z w k cs ∧ FmsR Z w ks (some ⟨b, off + 5, none⟩)
end
section keep
variable {Z Z' : Zone} {w w' : World} {v : Value}
theorem Ints.keep {xs : List Int} (h : Ints Z w v xs) (hk : Keeps Z w w') : Ints Z w' v xs := by
 obtain ⟨⟨A, cap, e, h1, h2, h2b, hr⟩, hf⟩ := h
 exact ⟨⟨A, cap, e, h1, h2, h2b, hr.keep hk⟩, hf⟩
theorem Ints.mono {xs : List Int} (h : Ints Z w v xs) (hz : ∀ b, Z b → Z' b) : Ints Z' w v xs := by
 obtain ⟨⟨A, cap, e, h1, h2, h2b, hr⟩, hf⟩ := h
 exact ⟨⟨A, cap, e, h1, h2, h2b, hr.mono hz⟩, hf⟩
theorem Facts.keep {xs : List FactD} (h : Facts Z w v xs) (hk : Keeps Z w w') : Facts Z w' v xs := by
 obtain ⟨⟨A, cap, e, h1, h2, h2b, hr⟩, hf⟩ := h
 exact ⟨⟨A, cap, e, h1, h2, h2b, hr.imp (fun _ _ h => h) hk (fun _ h => h)⟩, hf⟩
theorem Facts.mono {xs : List FactD} (h : Facts Z w v xs) (hz : ∀ b, Z b → Z' b) : Facts Z' w v xs := by
 obtain ⟨⟨A, cap, e, h1, h2, h2b, hr⟩, hf⟩ := h
 exact ⟨⟨A, cap, e, h1, h2, h2b, hr.imp (fun _ _ h => h) (Keeps.refl _ _) hz⟩, hf⟩
theorem NodeR.keep {cs : List Value} {n : NodeD} (h : NodeR Z w cs n) (hk : Keeps Z w w') : NodeR Z w' cs n := by
 obtain ⟨vc, vk, e, hf, h1, h2⟩ := h
 exact ⟨vc, vk, e, hf, h1.keep hk, h2.keep hk⟩
theorem NodeR.mono {cs : List Value} {n : NodeD} (h : NodeR Z w cs n) (hz : ∀ b, Z b → Z' b) : NodeR Z' w cs n := by
 obtain ⟨vc, vk, e, hf, h1, h2⟩ := h
 exact ⟨vc, vk, e, hf, h1.mono hz, h2.mono hz⟩
theorem Nodes.keep {ns : List NodeD} (h : Nodes Z w v ns) (hk : Keeps Z w w') : Nodes Z w' v ns := by
 obtain ⟨A, cap, e, h1, h2, h2b, h3⟩ := h
 exact ⟨A, cap, e, h1, h2, h2b, h3.imp (fun _ _ h => h.keep hk) hk (fun _ h => h)⟩
theorem Nodes.mono {ns : List NodeD} (h : Nodes Z w v ns) (hz : ∀ b, Z b → Z' b) : Nodes Z' w v ns := by
 obtain ⟨A, cap, e, h1, h2, h2b, h3⟩ := h
 exact ⟨A, cap, e, h1, h2, h2b, h3.imp (fun _ _ h => h.mono hz) (Keeps.refl _ _) hz⟩
mutual
theorem FmR.keep (hk : Keeps Z w w') : ∀ (f : Fm) (cs : List Value), FmR Z w f cs → FmR Z w' f cs
 | .mk op nm c n kids, cs, h => by
  unfold FmR at h ⊢
  obtain ⟨h1, h2, h3, h4, A, cap, e, h5, h6, h6b, h7⟩ := h
  exact ⟨h1, h2, h3, h4, A, cap, e, h5, h6, h6b, FmsR.keep hk kids A h7⟩
theorem FmsR.keep (hk : Keeps Z w w') : ∀ (l : List Fm) (A : Option Addr), FmsR Z w l A → FmsR Z w' l A
 | [], _, _ => by unfold FmsR; trivial
 | k :: ks, A, h => by
  unfold FmsR at h ⊢
  obtain ⟨b, off, cs, e, hz, hc, h1, h2⟩ := h
  exact ⟨b, off, cs, e, hz, fun j u hu => hk.cell hz (hc j u hu), FmR.keep hk k cs h1, FmsR.keep hk ks _ h2⟩
end
mutual
theorem FmR.mono (hz : ∀ b, Z b → Z' b) : ∀ (f : Fm) (cs : List Value), FmR Z w f cs → FmR Z' w f cs
 | .mk op nm c n kids, cs, h => by
  unfold FmR at h ⊢
  obtain ⟨h1, h2, h3, h4, A, cap, e, h5, h6, h6b, h7⟩ := h
  exact ⟨h1, h2, h3, h4, A, cap, e, h5, h6, h6b, FmsR.mono hz kids A h7⟩
theorem FmsR.mono (hz : ∀ b, Z b → Z' b) : ∀ (l : List Fm) (A : Option Addr), FmsR Z w l A → FmsR Z' w l A
 | [], _, _ => by unfold FmsR; trivial
 | k :: ks, A, h => by
  unfold FmsR at h ⊢
  obtain ⟨b, off, cs, e, hb, hc, h1, h2⟩ := h
  exact ⟨b, off, cs, e, hz b hb, hc, FmR.mono hz k cs h1, FmsR.mono hz ks _ h2⟩
end
end keep
/-- Kid i lies five cells a kid behind the first. -/
theorem FmsR.at_ {Z : Zone} {w : World} : ∀ {l : List Fm} {A : Option Addr} (_ : FmsR Z w l A) {i : Nat} (hi : i < l.length),
  ∃ b off cs, A = some ⟨b, off, none⟩ ∧ Z b ∧ (∀ j u, cs[j]? = some u → w.cell? ⟨b, off + i * 5 + j, none⟩ = some u) ∧ FmR Z w l[i] cs
 | k :: ks, A, h, 0, _ => by
  unfold FmsR at h
  obtain ⟨b, off, cs, e, hz, hc, h1, _⟩ := h
  exact ⟨b, off, cs, e, hz, by simpa using hc, h1⟩
 | k :: ks, A, h, i + 1, hi => by
  unfold FmsR at h
  obtain ⟨b, off, cs, e, hz, hc, _, h2⟩ := h
  obtain ⟨b', off', cs', e', hz', hc', h1'⟩ := FmsR.at_ h2 (i := i) (by simpa using hi)
  injection e' with e'
  injection e' with eb eo
  subst eb eo
  exact ⟨b, off, cs', e, hz, fun j u hu => by have := hc' j u hu; rwa [show off + 5 + i * 5 + j = off + (i + 1) * 5 + j from by omega] at this, by simpa using h1'⟩
theorem FmR.size {Z : Zone} {w : World} {f : Fm} {cs : List Value} (h : FmR Z w f cs) : cs.length = 5 := by
 obtain ⟨op, nm, c, n, kids⟩ := f
 unfold FmR at h
 obtain ⟨_, _, _, _, A, cap, e, _⟩ := h
 subst e; rfl
/-- A fact's cells, one by one. -/
theorem fact_cells {w : World} {b o : Nat} {f : FactD} (hc : ∀ j u, (FactD.cells f)[j]? = some u → w.cell? ⟨b, o + j, none⟩ = some u) :
  w.cell? ⟨b, o, none⟩ = some (.string f.name) ∧ w.cell? ⟨b, o + 1, none⟩ = some (.int .i64 f.kind) ∧ w.cell? ⟨b, o + 2, none⟩ = some (.int .i64 f.lo) ∧ w.cell? ⟨b, o + 3, none⟩ = some (.int .i64 f.hi) :=
 ⟨hc 0 _ rfl, hc 1 _ rfl, hc 2 _ rfl, hc 3 _ rfl⟩
theorem four_cells {w : World} {b o : Nat} {v0 v1 v2 v3 : Value} (hc : ∀ j u, [v0, v1, v2, v3][j]? = some u → w.cell? ⟨b, o + j, none⟩ = some u) :
  w.cell? ⟨b, o, none⟩ = some v0 ∧ w.cell? ⟨b, o + 1, none⟩ = some v1 ∧ w.cell? ⟨b, o + 2, none⟩ = some v2 ∧ w.cell? ⟨b, o + 3, none⟩ = some v3 :=
 ⟨hc 0 _ rfl, hc 1 _ rfl, hc 2 _ rfl, hc 3 _ rfl⟩
theorem five_cells {w : World} {b o : Nat} {v0 v1 v2 v3 v4 : Value} (hc : ∀ j u, [v0, v1, v2, v3, v4][j]? = some u → w.cell? ⟨b, o + j, none⟩ = some u) :
  w.cell? ⟨b, o, none⟩ = some v0 ∧ w.cell? ⟨b, o + 1, none⟩ = some v1 ∧ w.cell? ⟨b, o + 2, none⟩ = some v2 ∧ w.cell? ⟨b, o + 3, none⟩ = some v3 ∧ w.cell? ⟨b, o + 4, none⟩ = some v4 :=
 ⟨hc 0 _ rfl, hc 1 _ rfl, hc 2 _ rfl, hc 3 _ rfl, hc 4 _ rfl⟩
/-- Cells behind what keeps their block. -/
theorem cells_below {B : Nat} {w w' : World} (h : Below B w w') {b o : Nat} {cs : List Value} (hb : b < B) (hc : ∀ j u, cs[j]? = some u → w.cell? ⟨b, o + j, none⟩ = some u) :
  ∀ j u, cs[j]? = some u → w'.cell? ⟨b, o + j, none⟩ = some u := fun j u hu => (h.cell (p := ⟨b, o + j, none⟩) hb).trans (hc j u hu)
theorem FmsR.seq {Z : Zone} {w : World} : ∀ {l : List Fm} {A : Option Addr}, FmsR Z w l A → SeqR (fun cs f => FmR Z w f cs) 5 Z w l A
 | [], _, _ => trivial
 | _ :: _, _, h => by
  unfold FmsR at h
  obtain ⟨b, off, cs, e, hz, hc, h1, h2⟩ := h
  exact ⟨b, off, cs, e, hz, hc, h1, FmsR.seq h2⟩
theorem FmsR.of_seq {Z : Zone} {w : World} : ∀ {l : List Fm} {A : Option Addr}, SeqR (fun cs f => FmR Z w f cs) 5 Z w l A → FmsR Z w l A
 | [], _, _ => by unfold FmsR; trivial
 | _ :: _, _, ⟨b, off, cs, e, hz, hc, h1, h2⟩ => by
  unfold FmsR
  exact ⟨b, off, cs, e, hz, hc, h1, FmsR.of_seq h2⟩
/-- The first index with a property, -1 if there is none. -/
def firstIdx (p : Nat → Bool) : (n : Nat) → (i : Nat) → Int
 | 0, _ => -1
 | n + 1, i => if p i then i else firstIdx p n (i + 1)
theorem firstIdx_hit {p : Nat → Bool} : ∀ {n i k : Nat}, (∀ j, i ≤ j → j < k → p j = false) → i ≤ k → k < i + n → p k = true → firstIdx p n i = k
 | 0, i, k, _, h1, h2, _ => by omega
 | n + 1, i, k, h, h1, h2, hp => by
  unfold firstIdx
  by_cases e : i = k
  ·subst e; rw [if_pos hp]
  ·rw [if_neg (by rw [h i (Nat.le_refl _) (by omega)]; simp), firstIdx_hit (fun j a b => h j (by omega) b) (by omega) (by omega) hp]
theorem firstIdx_miss {p : Nat → Bool} : ∀ {n i : Nat}, (∀ j, i ≤ j → j < i + n → p j = false) → firstIdx p n i = -1
 | 0, _, _ => rfl
 | n + 1, i, h => by
  unfold firstIdx
  rw [if_neg (by rw [h i (Nat.le_refl _) (by omega)]; simp), firstIdx_miss (fun j a b => h j (by omega) (by omega))]
theorem firstIdx_spec (p : Nat → Bool) (n i : Nat) : (∃ k, i ≤ k ∧ k < i + n ∧ p k = true ∧ (∀ j, i ≤ j → j < k → p j = false) ∧ firstIdx p n i = k) ∨ ((∀ j, i ≤ j → j < i + n → p j = false) ∧ firstIdx p n i = -1) := by
 induction n generalizing i with
 | zero => exact .inr ⟨fun j a b => by omega, rfl⟩
 | succ n ih =>
  unfold firstIdx
  by_cases hp : p i = true
  ·rw [if_pos hp]; exact .inl ⟨i, Nat.le_refl _, by omega, hp, fun j a b => by omega, rfl⟩
  ·rw [if_neg hp]
   rcases ih (i + 1) with ⟨k, h1, h2, h3, h4, h5⟩ | ⟨h1, h2⟩
   ·exact .inl ⟨k, by omega, by omega, h3, fun j a b => by
     by_cases e : j = i
     ·subst e; simpa using hp
     ·exact h4 j (by omega) b, h5⟩
   ·exact .inr ⟨fun j a b => by
     by_cases e : j = i
     ·subst e; simpa using hp
     ·exact h1 j (by omega) (by omega), h2⟩
/-- A function value that says p of what stands at each index: in whatever world that holds what w held. -/
def PredF {α : Type} (P : Program) (g : FuncId) (lb : Array Value) (R : List Value → α → Prop) (w : World) (xs : List α) (p : Nat → Bool) : Prop :=
 ∀ i (hi : i < xs.length) cs, R cs xs[i] → ∀ W, Below w.heap.size w W → Calls P g (#[.agg cs.toArray] ++ lb) W fun e W' => e = .returned (.bool (p i)) ∧ Below W.heap.size W W'
theorem Row.of_own {w : World} {base : Nat} {e : TypeId} {v : Value} {n size : Nat} {xs : List Value} (h : w.ownsRow base e size v n xs) (_hs : 0 < size) :
  ∃ A cap, v = .slice A n cap ∧ n ≤ cap ∧ cap ≤ maxLen ∧ Row (fun b => base ≤ b) w A xs := by
 have hlen := h.1
 rcases h.2 with ⟨rfl, rfl⟩ | ⟨g, cap, cur, rfl, hb, hg, hn, hm, hsz, htk⟩
 ·exact ⟨none, 0, rfl, Nat.le_refl _, by simp [maxLen], fun hne => absurd (List.eq_nil_of_length_eq_zero (by simpa using hlen)) hne⟩
 ·refine ⟨some ⟨g, 0, none⟩, cap, rfl, hn, hm, fun _ => ⟨g, 0, rfl, hb, fun j u hu => ?_⟩⟩
  have := h.cells (g := g) rfl j u hu
  rwa [show (⟨g, 0, none⟩ : Addr).add j = ⟨g, 0 + j, none⟩ from by unfold Addr.add; split <;> simp_all] at this
theorem Ints.of_own {w : World} {base : Nat} {e : TypeId} {v : Value} {n : Nat} {xs : List Int} (h : w.ownsRow base e 1 v n (xs.map (.int .i64))) (hf : ∀ x ∈ xs, I64 x) (hl : xs.length * 8 ≤ 140737488355328) : Ints (fun b => base ≤ b) w v xs := by
 have hn : xs.length = n := by have := h.1; simpa using this
 subst hn
 obtain ⟨A, cap, e, h1, h2, h3⟩ := Row.of_own h (by omega)
 exact ⟨⟨A, cap, e, h1, by simpa [maxLen] using h2, hl, h3⟩, hf⟩
theorem Ints.nil (Z : Zone) (w : World) : Ints Z w (.slice none 0 0) [] := ⟨⟨none, 0, rfl, Nat.le_refl _, by omega, by simp, Row.nil⟩, by simp⟩
/-- Number i of a slice. -/
theorem Ints.at_ {Z : Zone} {w : World} {A : Option Addr} {cap n : Nat} {xs : List Int} (h : Ints Z w (.slice A n cap) xs) {i : Nat} (hi : i < xs.length) :
  ∃ b off, A = some ⟨b, off, none⟩ ∧ Z b ∧ b < w.heap.size ∧ w.cell? ⟨b, off + i, none⟩ = some (.int .i64 xs[i]) := by
 obtain ⟨⟨A', cap', e, _, _, _, hr⟩, _⟩ := h
 injection e with e1 e2 e3
 subst e1
 obtain ⟨b, off, rfl, hz, hc⟩ := hr (by intro he; rw [List.map_eq_nil_iff] at he; subst he; simp at hi)
 have := hc i (.int .i64 xs[i]) (by simp [hi])
 exact ⟨b, off, rfl, hz, lt_of_cell this, this⟩
/-- A slice of numbers, in the shelf's words. -/
theorem Ints.open_ {Z : Zone} {w : World} {v : Value} {xs : List Int} (h : Ints Z w v xs) (hne : xs ≠ []) :
  ∃ b off cap, v = .slice (some ⟨b, off, none⟩) xs.length cap ∧ Z b ∧ b < w.heap.size ∧ xs.length ≤ cap ∧ ∀ j, j < xs.length → w.cell? ⟨b, off + j, none⟩ = some (.int .i64 (xs.getD j 0)) := by
 obtain ⟨⟨A, cap, rfl, h1, _, _, hr⟩, _⟩ := h
 obtain ⟨b, off, rfl, hz, hc⟩ := hr (by simpa using hne)
 have h0 : 0 < xs.length := List.length_pos_iff.2 hne
 have key : ∀ j, j < xs.length → w.cell? ⟨b, off + j, none⟩ = some (.int .i64 (xs.getD j 0)) := fun j hj => by
  rw [hc j (.int .i64 xs[j]) (by simp [hj])]; simp [List.getD, hj]
 exact ⟨b, off, cap, rfl, hz, lt_of_cell (key 0 h0), h1, key⟩
theorem Ints.len {Z : Zone} {w : World} {A : Option Addr} {n cap : Nat} {xs : List Int} (h : Ints Z w (.slice A n cap) xs) : n = xs.length := by
 obtain ⟨⟨A', cap', e, _⟩, _⟩ := h
 injection e
/-- A block of one cell, none frozen. -/
def One (w : World) (B : Nat) (v : Value) : Prop := ∃ t, w.heap[B]? = some (.cells #[v] t (0, 0))
section one
variable {w w' : World} {B : Nat} {v : Value}
theorem One.cell (h : One w B v) : w.cell? ⟨B, 0, none⟩ = some v := by obtain ⟨t, h⟩ := h; exact cell_of_one h
theorem One.free (h : One w B v) : w.frozen? ⟨B, 0, none⟩ = false := by obtain ⟨t, h⟩ := h; exact free_of_one h
theorem One.lt (h : One w B v) : B < w.heap.size := by obtain ⟨t, h⟩ := h; exact lt_of_block h
theorem One.new (w : World) (v : Value) (t : TypeId) : One (w.alloc (.cells #[v] t)) w.heap.size v := ⟨t, heap_alloc_new w _⟩
theorem One.of_block (h : One w B v) (hb : w'.heap[B]? = w.heap[B]?) : One w' B v := by obtain ⟨t, h⟩ := h; exact ⟨t, hb.trans h⟩
theorem One.keep {Z : Zone} (h : One w B v) (hk : Keeps Z w w') (hz : Z B) : One w' B v := h.of_block (hk.block B h.lt hz)
theorem One.below {C : Nat} (h : One w B v) (hk : Below C w w') (hz : B < C) : One w' B v := h.of_block (hk.block B hz)
theorem One.alloc (h : One w B v) (o : Obj) : One (w.alloc o) B v := h.of_block (Below.heap_alloc _ _ _ h.lt)
theorem One.drew (h : One w B v) : One w.drew B v := h
theorem One.set_ (h : One w B v) (u : Value) : One (w.setCell ⟨B, 0, none⟩ u) B u := by obtain ⟨t, h⟩ := h; exact ⟨t, one_setCell h⟩
theorem One.far (h : One w B v) {p : Addr} (hp : B ≠ p.block) (u : Value) : One (w.setCell p u) B v := h.of_block (Below.heap_setCell _ _ _ _ hp)
end one
theorem keeps_drewN (Z : Zone) (w : World) (n : Nat) : Keeps Z w (w.drewN n) := ⟨rfl, rfl, rfl, Nat.le_refl _, fun _ _ _ => rfl⟩
theorem Ints.drewN {Z : Zone} {w : World} {v : Value} {xs : List Int} (h : Ints Z w v xs) (n : Nat) : Ints Z (w.drewN n) v xs := h.keep (keeps_drewN Z w n)
end Go.Proofs.YtcigjmlileckhaaGreatDoor
/- From what an argument reads as to this work's own words: a slice of numbers, facts, nodes, a formula. Any program whose types are laid out so. -/
namespace Go.Proofs.YtcigjmlileckhaaGreatDoor
open Go.RowKit Go.ChangeShapes Go.Deep
section op
variable {H : Type} {enc : TypeId × Value → H} {P : Program} {w : World} {held : Bool}
/-- All blocks that are there. -/
def Here (w : World) : Zone := fun b => b < w.heap.size
abbrev RdFits {H : Type} (P : Program) (t : TypeId) (d : DataW H) : Prop := (d.weights P t).all (· ≤ reachBytes) = true
theorem weightsAll_mem' {e : TypeId} : ∀ {l : List (DataW H)} {d : DataW H}, d ∈ l → ∀ n ∈ d.weights P e, n ∈ DataW.weightsAll P e l
 | d' :: r, d, hd, n, hn => by
  simp only [DataW.weightsAll, List.mem_append]
  rcases List.mem_cons.1 hd with rfl | h
  ·exact Or.inl hn
  ·exact Or.inr (weightsAll_mem' h n hn)
theorem rd_elem {t e : TypeId} {elems spare : List (DataW H)} (ht : P.underlying t = some (.slice e)) (h : RdFits P t (.slice elems spare)) {d : DataW H} (hd : d ∈ elems) : RdFits P e d := by
 refine List.all_eq_true.2 fun n hn => List.all_eq_true.1 h n ?_
 simp only [DataW.weights, ht, List.mem_cons, List.mem_append]
 exact Or.inr (Or.inl (weightsAll_mem' hd n hn))
theorem rd_len {t e : TypeId} {elems spare : List (DataW H)} (ht : P.underlying t = some (.slice e)) (h : RdFits P t (.slice elems spare)) : (elems.length + spare.length) * P.bytesOf e ≤ reachBytes :=
 of_decide_eq_true (List.all_eq_true.1 h _ (by simp only [DataW.weights, ht, List.mem_cons]; exact Or.inl trivial))
theorem rd_part {t : TypeId} {fs : Array Field} {parts : List (DataW H)} (ht : P.underlying t = some (.struct fs)) (h : RdFits P t (.agg parts)) {j : Nat} {f : Field} {d : DataW H} (hf : fs[j]? = some f) (hd : parts[j]? = some d) : RdFits P f.type d := by
 refine List.all_eq_true.2 fun n hn => List.all_eq_true.1 h n ?_
 simp only [DataW.weights, ht]
 exact DataW.weights_mem_each (j := j) (by simpa using congrArg (Option.map (·.type)) hf) hd n hn
theorem rd_string {t : TypeId} {l : List UInt8} (h : RdFits P t (.lit (.string l) : DataW H)) : l.length ≤ reachBytes :=
 of_decide_eq_true (List.all_eq_true.1 h _ (by simp [DataW.weights]))
theorem rd_seq_of {α : Type} {R : List Value → α → Prop} {k : Nat} {Z : Zone} {b : Nat} (hz : Z b) : ∀ (n off : Nat), (∀ i, i < n → ∃ cs a, (∀ j u, cs[j]? = some u → w.cell? ⟨b, off + i * k + j, none⟩ = some u) ∧ R cs a) →
  ∃ l : List α, l.length = n ∧ SeqR R k Z w l (some ⟨b, off, none⟩)
 | 0, _, _ => ⟨[], rfl, trivial⟩
 | n + 1, off, h => by
  obtain ⟨cs, a, h1, h2⟩ := h 0 (by omega)
  obtain ⟨l, hl, hs⟩ := rd_seq_of hz n (off + k) (fun i hi => by
   obtain ⟨cs, a, h1, h2⟩ := h (i + 1) (by omega)
   refine ⟨cs, a, fun j u hu => ?_, h2⟩
   have := h1 j u hu
   rwa [show off + (i + 1) * k + j = off + k + i * k + j from by rw [Nat.add_mul]; omega] at this)
  exact ⟨a :: l, by simp [hl], b, off, cs, rfl, hz, fun j u hu => by simpa using h1 j u hu, h2, hs⟩
/-- A slice of things of k cells each. -/
theorem op_seq {α : Type} {R : List Value → α → Prop} {t e : TypeId} {k fuel : Nat} {cs : List Value} {x : DataW H × List MemPlace} (hk : 0 < k) (ht : P.underlying t = some (.slice e)) (hc : P.cellsOf e = k)
  (h : DataW.trod enc P w 0 (fun _ => true) held fuel t cs = some x) (hw : RdFits P t x.1)
  (hel : ∀ m cs y, m < fuel → cs.length = k → DataW.trod enc P w 0 (fun _ => true) held m e cs = some y → RdFits P e y.1 → ∃ a, R cs a) :
  ∃ (l : List α) (A : Option Addr) (cap : Nat), cs = [.slice A l.length cap] ∧ l.length ≤ cap ∧ cap ≤ maxLen ∧ cap * P.bytesOf e ≤ reachBytes ∧ SeqR R k (Here w) w l A := by
 rcases DataW.trod_slice ht h with ⟨rfl, rfl⟩ | ⟨a, len, cap, elems, rest, n, rfl, rfl, rfl, -, hl, hm, hlen, hx, hsp, -⟩
 ·exact ⟨[], none, 0, rfl, Nat.le_refl _, by simp, by simp, trivial⟩
 have hr := (hsp rfl).1
 have hb := rd_len ht hw
 rw [List.length_map, List.length_map, hlen, hr, show len + (cap - len) = cap from by omega] at hb
 have hall : ∀ i, i < len → ∃ cs a', (∀ j u, cs[j]? = some u → w.cell? (a.add (i * k + j)) = some u) ∧ R cs a' ∧ cs.length = k := by
  intro i hi
  have h1 := hx i hi
  rw [hc] at h1
  have hi' : i < elems.length := by omega
  rw [List.getElem?_eq_getElem hi', Option.bind_eq_some_iff] at h1
  obtain ⟨cs', h2, h3⟩ := h1
  obtain ⟨-, h4, h5⟩ := World.cells?_some h2
  obtain ⟨a', h6⟩ := hel n cs' _ (by omega) h4 h3 (rd_elem ht hw (List.mem_map.2 ⟨_, List.getElem_mem hi', rfl⟩))
  refine ⟨cs', a', fun j u hu => ?_, h6, h4⟩
  have hj : j < k := by
   rcases Nat.lt_or_ge j cs'.length with h | h
   ·omega
   ·rw [List.getElem?_eq_none h] at hu; cases hu
  rw [← add_add, h5 j hj, hu]
 rcases Nat.eq_zero_or_pos len with rfl | hp
 ·exact ⟨[], some a, cap, rfl, hl, hm, hb, trivial⟩
 obtain ⟨b, off, spot⟩ := a
 obtain ⟨cs0, a0, h1, -, h2⟩ := hall 0 hp
 have hc0 := h1 0 (cs0[0]'(by omega)) (List.getElem?_eq_getElem _)
 simp only [Nat.zero_mul, Nat.add_zero] at hc0
 obtain rfl : spot = none := by simpa [Addr.add] using World.cell?_spot hc0
 have hlt : b < w.heap.size := by simpa [Addr.add] using lt_of_cell hc0
 obtain ⟨l, hll, hs⟩ := rd_seq_of (R := R) (k := k) (w := w) (Z := Here w) (b := b) hlt len off (fun i hi => by
  obtain ⟨cs', a', h1, h2, -⟩ := hall i hi
  exact ⟨cs', a', fun j u hu => by have := h1 j u hu; rw [Go.WideShapes.add_plain] at this; rwa [Nat.add_assoc], h2⟩)
 exact ⟨l, some ⟨b, off, none⟩, cap, by rw [hll], by omega, hm, hb, hs⟩
theorem rd_row_of_seq {Z : Zone} : ∀ {l : List Value} {A : Option Addr}, SeqR (fun cs v => cs = [v]) 1 Z w l A → Row Z w A l
 | [], _, _ => Row.nil
 | v :: l, A, h => fun _ => by
  have h0 := h
  obtain ⟨b, off, cs, e, hz, hc, h1, h2⟩ := h
  refine ⟨b, off, e, hz, fun j u hu => ?_⟩
  have hj : j < (v :: l).length := by
   rcases Nat.lt_or_ge j (v :: l).length with h | h
   ·exact h
   ·rw [List.getElem?_eq_none h] at hu; cases hu
  obtain ⟨b', off', cs', e', hz', hc', h1'⟩ := SeqR.at_ h0 hj
  subst e
  injection e' with e'
  injection e' with eb eo
  subst eb eo
  have := hc' 0 u (by rw [h1']; rw [List.getElem?_eq_getElem hj] at hu; simpa using hu)
  simpa using this
theorem i64_of_wf {n : Int} (h : (Lit.int .i64 n).wf = true) : I64 n := by
 have := bounds_i64 h
 exact this
/-- A slice of numbers. -/
theorem op_ints {t e : TypeId} {fuel : Nat} {cs : List Value} {x : DataW H × List MemPlace} (ht : P.underlying t = some (.slice e)) (he : P.underlying e = some (.int .i64)) (hc : P.cellsOf e = 1) (hb : P.bytesOf e = 8)
  (h : DataW.trod enc P w 0 (fun _ => true) held fuel t cs = some x) (hw : RdFits P t x.1) : ∃ v xs, cs = [v] ∧ Ints (Here w) w v xs := by
 obtain ⟨l, A, cap, rfl, h1, h2, h3, h4⟩ := op_seq (R := fun cs (n : Int) => cs = [.int .i64 n] ∧ I64 n) (Nat.zero_lt_one) ht hc h hw (fun m cs y _ _ hy _ => by
  obtain ⟨n, rfl, -, hn⟩ := DataW.trod_int he hy
  exact ⟨n, rfl, i64_of_wf hn⟩)
 rw [hb] at h3
 have hr : reachBytes = 140737488351232 := rfl
 rw [hr] at h3
 refine ⟨_, l, rfl, ⟨A, cap, rfl, h1, by simpa [maxLen] using h2, by omega, ?_⟩, ?_⟩
 ·clear h1
  have : ∀ (l : List Int) (A : Option Addr), SeqR (fun cs (n : Int) => cs = [.int .i64 n] ∧ I64 n) 1 (Here w) w l A → SeqR (fun cs v => cs = [v]) 1 (Here w) w (l.map (.int .i64)) A := by
   intro l
   induction l with
   | nil => intro A _; exact trivial
   | cons n l ih => intro A ⟨b, off, cs, e, hz, hc, h1, h2⟩; exact ⟨b, off, cs, e, hz, hc, h1.1, ih _ h2⟩
  exact rd_row_of_seq (this _ _ h4)
 ·intro n hn
  obtain ⟨i, hi, rfl⟩ := List.getElem_of_mem hn
  obtain ⟨_, _, _, _, _, _, h⟩ := SeqR.at_ h4 hi
  exact h.2
/-- Field number j of a struct whose fields lie one behind the other, k cells on. -/
theorem op_field {t : TypeId} {fs : Array Field} {fuel : Nat} {cs : List Value} {x : DataW H × List MemPlace} (ht : P.underlying t = some (.struct fs)) (h : DataW.trod enc P w 0 (fun _ => true) held fuel t cs = some x) (hw : RdFits P t x.1) :
  cs.length = P.cellsOf t ∧ ∀ (j : Nat) (f : Field), fs[j]? = some f → ∃ m y, m < fuel ∧ DataW.trod enc P w 0 (fun _ => true) held m f.type ((cs.drop f.offset).take (P.cellsOf f.type)) = some y ∧ RdFits P f.type y.1 := by
 obtain ⟨xs, n, rfl, rfl, hl, hlen, hf⟩ := DataW.trod_struct ht h
 refine ⟨hl, fun j f hj => ?_⟩
 have h1 := hf j f hj
 have hlt : j < xs.length := by
  rw [hlen]
  rcases Nat.lt_or_ge j fs.size with h | h
  ·exact h
  ·rw [Array.getElem?_eq_none h] at hj; cases hj
 rw [List.getElem?_eq_getElem hlt] at h1
 exact ⟨n, _, by omega, h1, rd_part ht hw hj (by simp [hlt])⟩
/-- How the types of this program's data are laid out. -/
structure Tys (P : Program) (tInt tStr tBool tInts tFact tFacts tNode tNodes tFm tFms : TypeId) : Prop where
 int : P.underlying tInt = some (.int .i64)
 intc : P.cellsOf tInt = 1
 intb : P.bytesOf tInt = 8
 str : P.underlying tStr = some .string
 strc : P.cellsOf tStr = 1
 bool : P.underlying tBool = some .bool
 boolc : P.cellsOf tBool = 1
 ints : P.underlying tInts = some (.slice tInt)
 intsc : P.cellsOf tInts = 1
 fact : ∃ f0 f1 f2 f3, P.underlying tFact = some (.struct #[f0, f1, f2, f3]) ∧ (f0.type = tStr ∧ f0.offset = 0) ∧ (f1.type = tInt ∧ f1.offset = 1) ∧ (f2.type = tInt ∧ f2.offset = 2) ∧ (f3.type = tInt ∧ f3.offset = 3)
 factc : P.cellsOf tFact = 4
 factb : P.bytesOf tFact = 40
 facts : P.underlying tFacts = some (.slice tFact)
 factsc : P.cellsOf tFacts = 1
 node : ∃ f0 f1 f2 f3, P.underlying tNode = some (.struct #[f0, f1, f2, f3]) ∧ (f0.type = tBool ∧ f0.offset = 0) ∧ (f1.type = tInt ∧ f1.offset = 1) ∧ (f2.type = tInts ∧ f2.offset = 2) ∧ (f3.type = tInts ∧ f3.offset = 3)
 nodec : P.cellsOf tNode = 4
 nodeb : P.bytesOf tNode = 64
 nodes : P.underlying tNodes = some (.slice tNode)
 nodesc : P.cellsOf tNodes = 1
 fm : ∃ f0 f1 f2 f3 f4, P.underlying tFm = some (.struct #[f0, f1, f2, f3, f4]) ∧ (f0.type = tInt ∧ f0.offset = 0) ∧ (f1.type = tStr ∧ f1.offset = 1) ∧ (f2.type = tInt ∧ f2.offset = 2) ∧ (f3.type = tInt ∧ f3.offset = 3) ∧ (f4.type = tFms ∧ f4.offset = 4)
 fmc : P.cellsOf tFm = 5
 fmb : P.bytesOf tFm = 64
 fms : P.underlying tFms = some (.slice tFm)
 fmsc : P.cellsOf tFms = 1
theorem reach_is : reachBytes = 140737488351232 := rfl
theorem op_int {t : TypeId} {m : Nat} {v : Value} {y : DataW H × List MemPlace} (ht : P.underlying t = some (.int .i64)) (h : DataW.trod enc P w 0 (fun _ => true) held m t [v] = some y) : ∃ n, v = .int .i64 n ∧ I64 n := by
 obtain ⟨n, e, -, hn⟩ := DataW.trod_int ht h
 exact ⟨n, by simpa using e, i64_of_wf hn⟩
theorem op_str {t : TypeId} {m : Nat} {v : Value} {y : DataW H × List MemPlace} (ht : P.underlying t = some .string) (h : DataW.trod enc P w 0 (fun _ => true) held m t [v] = some y) (hw : RdFits P t y.1) : ∃ s : ByteArray, v = .string s ∧ s.size ≤ 140737488355328 := by
 obtain ⟨s, e, rfl, -⟩ := DataW.trod_string ht h
 have := rd_string hw
 rw [reach_is] at this
 have e2 : s.size = s.data.toList.length := by rw [Array.length_toList]; rfl
 exact ⟨s, List.singleton_inj.1 e, by omega⟩
theorem op_bool {t : TypeId} {m : Nat} {v : Value} {y : DataW H × List MemPlace} (ht : P.underlying t = some .bool) (h : DataW.trod enc P w 0 (fun _ => true) held m t [v] = some y) : ∃ b : Bool, v = .bool b := by
 obtain ⟨b, e, -⟩ := DataW.trod_bool ht h
 exact ⟨b, by simpa using e⟩
variable {tInt tStr tBool tInts tFact tFacts tNode tNodes tFm tFms : TypeId}
theorem op_ints' (T : Tys P tInt tStr tBool tInts tFact tFacts tNode tNodes tFm tFms) {m : Nat} {v : Value} {y : DataW H × List MemPlace} (h : DataW.trod enc P w 0 (fun _ => true) held m tInts [v] = some y) (hw : RdFits P tInts y.1) : ∃ xs, Ints (Here w) w v xs := by
 obtain ⟨v', xs, e, h⟩ := op_ints T.ints T.int T.intc T.intb h hw
 obtain rfl : v = v' := by simpa using e
 exact ⟨xs, h⟩
theorem op_facts (T : Tys P tInt tStr tBool tInts tFact tFacts tNode tNodes tFm tFms) {m : Nat} {v : Value} {y : DataW H × List MemPlace} (h : DataW.trod enc P w 0 (fun _ => true) held m tFacts [v] = some y) (hw : RdFits P tFacts y.1) : ∃ xs, Facts (Here w) w v xs := by
 obtain ⟨l, A, cap, e, h1, h2, h3, h4⟩ := op_seq (R := fun cs (f : FactD) => cs = FactD.cells f ∧ f.fit) (by decide) T.facts T.factc h hw (fun m cs y _ hl hy hw => by
  obtain ⟨f0, f1, f2, f3, hf, ⟨t0, o0⟩, ⟨t1, o1⟩, ⟨t2, o2⟩, ⟨t3, o3⟩⟩ := T.fact
  obtain ⟨-, hp⟩ := op_field hf hy hw
  match cs, hl with
  | [c0, c1, c2, c3], _ =>
   obtain ⟨m0, y0, -, q0, w0⟩ := hp 0 f0 rfl
   obtain ⟨m1, y1, -, q1, w1⟩ := hp 1 f1 rfl
   obtain ⟨m2, y2, -, q2, w2⟩ := hp 2 f2 rfl
   obtain ⟨m3, y3, -, q3, w3⟩ := hp 3 f3 rfl
   rw [t0, o0, T.strc] at q0
   rw [t0] at w0
   rw [t1, o1, T.intc] at q1
   rw [t2, o2, T.intc] at q2
   rw [t3, o3, T.intc] at q3
   obtain ⟨s, rfl, hs⟩ := op_str T.str q0 w0
   obtain ⟨n1, rfl, i1⟩ := op_int T.int q1
   obtain ⟨n2, rfl, i2⟩ := op_int T.int q2
   obtain ⟨n3, rfl, i3⟩ := op_int T.int q3
   exact ⟨⟨s, n1, n2, n3⟩, rfl, hs, i1, i2, i3⟩)
 rw [T.factb, reach_is] at h3
 obtain rfl : v = _ := by simpa using e
 refine ⟨l, ⟨A, cap, rfl, h1, by simpa [maxLen] using h2, by omega, h4.imp (fun _ _ h => h.1) (Keeps.refl _ _) (fun _ h => h)⟩, fun x hx => ?_⟩
 obtain ⟨i, hi, rfl⟩ := List.getElem_of_mem hx
 obtain ⟨_, _, _, _, _, _, h⟩ := SeqR.at_ h4 hi
 exact h.2
theorem op_node (T : Tys P tInt tStr tBool tInts tFact tFacts tNode tNodes tFm tFms) {m : Nat} {cs : List Value} {y : DataW H × List MemPlace} (hl : cs.length = 4) (hy : DataW.trod enc P w 0 (fun _ => true) held m tNode cs = some y) (hw : RdFits P tNode y.1) : ∃ n, NodeR (Here w) w cs n := by
 obtain ⟨f0, f1, f2, f3, hf, ⟨t0, o0⟩, ⟨t1, o1⟩, ⟨t2, o2⟩, ⟨t3, o3⟩⟩ := T.node
 obtain ⟨-, hp⟩ := op_field hf hy hw
 match cs, hl with
 | [c0, c1, c2, c3], _ =>
  obtain ⟨m0, y0, -, q0, w0⟩ := hp 0 f0 rfl
  obtain ⟨m1, y1, -, q1, w1⟩ := hp 1 f1 rfl
  obtain ⟨m2, y2, -, q2, w2⟩ := hp 2 f2 rfl
  obtain ⟨m3, y3, -, q3, w3⟩ := hp 3 f3 rfl
  rw [t0, o0, T.boolc] at q0
  rw [t1, o1, T.intc] at q1
  rw [t2, o2, T.intsc] at q2
  rw [t3, o3, T.intsc] at q3
  rw [t2] at w2
  rw [t3] at w3
  obtain ⟨b, rfl⟩ := op_bool T.bool q0
  obtain ⟨n1, rfl, i1⟩ := op_int T.int q1
  obtain ⟨xs, i2⟩ := op_ints' T q2 w2
  obtain ⟨ys, i3⟩ := op_ints' T q3 w3
  exact ⟨⟨b, n1, xs, ys⟩, _, _, rfl, i1, i2, i3⟩
theorem op_nodes (T : Tys P tInt tStr tBool tInts tFact tFacts tNode tNodes tFm tFms) {m : Nat} {v : Value} {y : DataW H × List MemPlace} (h : DataW.trod enc P w 0 (fun _ => true) held m tNodes [v] = some y) (hw : RdFits P tNodes y.1) : ∃ ns, Nodes (Here w) w v ns := by
 obtain ⟨l, A, cap, e, h1, h2, h3, h4⟩ := op_seq (R := NodeR (Here w) w) (by decide) T.nodes T.nodec h hw (fun m cs y _ hl hy hw => op_node T hl hy hw)
 rw [T.nodeb, reach_is] at h3
 obtain rfl : v = _ := by simpa using e
 exact ⟨l, A, cap, rfl, h1, by simpa [maxLen] using h2, by omega, h4⟩
theorem op_fm (T : Tys P tInt tStr tBool tInts tFact tFacts tNode tNodes tFm tFms) : ∀ (m : Nat) (cs : List Value) (y : DataW H × List MemPlace), cs.length = 5 → DataW.trod enc P w 0 (fun _ => true) held m tFm cs = some y → RdFits P tFm y.1 → ∃ f, FmR (Here w) w f cs := by
 intro m
 induction m using Nat.strongRecOn with
 | ind m ih =>
  intro cs y hl hy hw
  obtain ⟨f0, f1, f2, f3, f4, hf, ⟨t0, o0⟩, ⟨t1, o1⟩, ⟨t2, o2⟩, ⟨t3, o3⟩, ⟨t4, o4⟩⟩ := T.fm
  obtain ⟨-, hp⟩ := op_field hf hy hw
  match cs, hl with
  | [c0, c1, c2, c3, c4], _ =>
   obtain ⟨m0, y0, -, q0, w0⟩ := hp 0 f0 rfl
   obtain ⟨m1, y1, -, q1, w1⟩ := hp 1 f1 rfl
   obtain ⟨m2, y2, -, q2, w2⟩ := hp 2 f2 rfl
   obtain ⟨m3, y3, -, q3, w3⟩ := hp 3 f3 rfl
   obtain ⟨m4, y4, lt4, q4, w4⟩ := hp 4 f4 rfl
   rw [t0, o0, T.intc] at q0
   rw [t1, o1, T.strc] at q1
   rw [t2, o2, T.intc] at q2
   rw [t3, o3, T.intc] at q3
   rw [t4, o4, T.fmsc] at q4
   rw [t1] at w1
   rw [t4] at w4
   obtain ⟨n0, rfl, i0⟩ := op_int T.int q0
   obtain ⟨s, rfl, hs⟩ := op_str T.str q1 w1
   obtain ⟨n2, rfl, i2⟩ := op_int T.int q2
   obtain ⟨n3, rfl, i3⟩ := op_int T.int q3
   obtain ⟨l, A, cap, e, h1, h2, h3, h4⟩ := op_seq (R := fun cs f => FmR (Here w) w f cs) (by decide) T.fms T.fmc q4 w4 (fun m' cs y hm hl hy hw => ih m' (by omega) cs y hl hy hw)
   rw [T.fmb, reach_is] at h3
   obtain rfl : c4 = _ := by simpa using e
   refine ⟨.mk n0 s n2 n3 l, ?_⟩
   unfold FmR
   exact ⟨i0, hs, i2, i3, A, cap, rfl, h1, by simpa [maxLen] using h2, by omega, FmsR.of_seq h4⟩
end op
end Go.Proofs.YtcigjmlileckhaaGreatDoor
/- A guarded operation without a fork: what it yields is kept behind its guard. Over any program. -/
namespace Go.Proofs.YtcigjmlileckhaaGreatDoor
open Go.RowKit
theorem ret_int {k : IntKind} {a b : Int} (h : a = b) : Ending.returned (.int k a) = .returned (.int k b) := by rw [h]
theorem ret_bool {a b : Bool} (h : a = b) : Ending.returned (.bool a) = .returned (.bool b) := by rw [h]
/-- What a guarded operation leaves: the value where the guard held. -/
def gv (g : Bool) (v : Value) : Value := if g then v else undef
theorem gv_true (v : Value) : gv true v = v := rfl
theorem gv_false (v : Value) : gv false v = undef := rfl
theorem gv_gv (g : Bool) (v : Value) : gv g (gv g v) = gv g v := by cases g <;> rfl
def wantB (v : Value) (want : Bool) : Bool := match v with | .bool b => b == want | _ => false
theorem wanted_of {o : Oper} {ops : Array Oper} {a : Act} {j : Nat} {want : Bool} (hg : o.guard = some (j, want)) {d : Tmp} {v : Value}
  (hd : (ops[j]?).bind (·.dst) = some d) (hv : a.tmps[d]? = some v) : Region.wanted o (yielded ops a.tmps) = wantB v want := by
 unfold Region.wanted yielded
 simp only [hg, hd, Option.bind_some, hv]
 cases v <;> simp [wantB]
/-- What a guard's slot says. -/
inductive Wants : Value → Bool → Bool → Prop where
 | bt (b : Bool) : Wants (.bool b) true b
 | bf (b : Bool) : Wants (.bool b) false (!b)
 | gt (G b : Bool) : Wants (gv G (.bool b)) true (G && b)
 | gf (G b : Bool) : Wants (gv G (.bool b)) false (G && !b)
theorem Wants.eq {v : Value} {want g : Bool} (h : Wants v want g) : wantB v want = g :=
 match v, want, g, h with
 | _, _, _, .bt b => by cases b <;> rfl
 | _, _, _, .bf b => by cases b <;> rfl
 | _, _, _, .gt G b => by cases G <;> cases b <;> rfl
 | _, _, _, .gf G b => by cases G <;> cases b <;> rfl
/-- No bare variable. -/
inductive NotVar : Bool → Prop where
 | app {α : Type} {f : α → Bool} {x : α} : NotVar (f x)
section
variable {P : Program} {ops : Array Oper} {rest : List Oper} {o : Oper} {a : Act} {w : World} {Q : Exit → Act → World → Prop}
theorem wpList_guarded {j : Nat} {want : Bool} (hgd : o.guard = some (j, want)) {d : Tmp} {u : Value}
  (hd : (ops[j]?).bind (·.dst) = some d) (hv : a.tmps[d]? = some u) {g : Bool} (hw : Wants u want g) {v : Value}
  (hrun : g = true → (execOp a.eval o).run P w = .ok (.value v) w) (h : wpList P ops Q rest (a.put o.dst (gv g v)) w) : wpList P ops Q (o :: rest) a w := by
 have e := (wanted_of (ops := ops) (a := a) hgd hd hv).trans hw.eq
 unfold wpList
 cases g with
 | true =>
  rw [if_pos e]
  refine .inl ?_
  unfold Oper.wp
  rw [hrun rfl]
  exact h
 | false =>
  rw [if_neg (by simp [e])]
  exact h
theorem put_same {d : Tmp} {v : Value} (h : a.tmps[d]? = some v) : a.put (some d) v = a := by
 cases a with
 | mk t ds =>
  simp only [Act.put]
  congr 1
  obtain ⟨hlt, he⟩ := Array.getElem?_eq_some_iff.1 h
  apply Array.ext
  ·simp
  ·intro i h1 h2
   rw [Array.getElem_setIfInBounds]
   split
   ·rename_i e; subst e; exact he.symm
   ·rfl
theorem wpList_gen {j : Nat} {want : Bool} (_hgd : o.guard = some (j, want)) {d : Tmp} {b : Bool}
  (_hd : (ops[j]?).bind (·.dst) = some d) (hv : a.tmps[d]? = some (.bool b)) (_hn : NotVar b)
  (h : ∀ bb : Bool, Hid (bb = b) → wpList P ops Q (o :: rest) (a.put (some d) (.bool bb)) w) : wpList P ops Q (o :: rest) a w := by
 have := h b rfl
 rwa [put_same hv] at this
theorem wpList_gen2 {j : Nat} {want : Bool} (_hgd : o.guard = some (j, want)) {d : Tmp} {G b : Bool}
  (_hd : (ops[j]?).bind (·.dst) = some d) (hv : a.tmps[d]? = some (gv G (.bool b))) (_hn : NotVar b)
  (h : ∀ bb : Bool, Hid (bb = b) → wpList P ops Q (o :: rest) (a.put (some d) (gv G (.bool bb))) w) : wpList P ops Q (o :: rest) a w := by
 have := h b rfl
 rwa [put_same hv] at this
theorem run_pick {c x y : Operand} (ho : o.op = .pick c x y) {b : Bool} (hc : a.eval c = .bool b) :
  (execOp a.eval o).run P w = .ok (.value (if b = true then a.eval x else a.eval y)) w := by
 simp only [execOp, ho, hc]
 cases b <;> simp [asBool]
theorem wpList_pick {c x y : Operand} (hgd : o.guard = none) (ho : o.op = .pick c x y) {b : Bool} (hc : a.eval c = .bool b) {v : Value}
  (hv : (if b = true then a.eval x else a.eval y) = v) (h : wpList P ops Q rest (a.put o.dst v) w) : wpList P ops Q (o :: rest) a w :=
 wpList_plain hgd fun K hK => by
  unfold Oper.wp
  rw [run_pick ho hc, hv]
  exact hK _ _ h
theorem wpList_pick_t {c x y : Operand} (hgd : o.guard = none) (ho : o.op = .pick c x y) (hc : a.eval c = .bool true) {v : Value}
  (hv : a.eval x = v) (h : wpList P ops Q rest (a.put o.dst v) w) : wpList P ops Q (o :: rest) a w := wpList_pick hgd ho hc (by rw [if_pos rfl]; exact hv) h
theorem wpList_pick_f {c x y : Operand} (hgd : o.guard = none) (ho : o.op = .pick c x y) (hc : a.eval c = .bool false) {v : Value}
  (hv : a.eval y = v) (h : wpList P ops Q rest (a.put o.dst v) w) : wpList P ops Q (o :: rest) a w := wpList_pick hgd ho hc (by rw [if_neg (by simp)]; exact hv) h
theorem wpList_pick_and {c x y : Operand} (hgd : o.guard = none) (ho : o.op = .pick c x y) {b b2 : Bool} (hc : a.eval c = .bool b)
  (hx : a.eval x = gv b (.bool b2)) (hy : a.eval y = .bool false) (h : wpList P ops Q rest (a.put o.dst (.bool (b && b2))) w) : wpList P ops Q (o :: rest) a w :=
 wpList_pick hgd ho hc (by rw [hx, hy]; cases b <;> rfl) h
theorem wpList_pick_or {c x y : Operand} (hgd : o.guard = none) (ho : o.op = .pick c x y) {b b2 : Bool} (hc : a.eval c = .bool b)
  (hx : a.eval x = .bool true) (hy : a.eval y = gv (!b) (.bool b2)) (h : wpList P ops Q rest (a.put o.dst (.bool (b || b2))) w) : wpList P ops Q (o :: rest) a w :=
 wpList_pick hgd ho hc (by rw [hx, hy]; cases b <;> rfl) h
theorem wpList_gpick_and {j : Nat} {want : Bool} (hgd : o.guard = some (j, want)) {d : Tmp} {u : Value}
  (hd : (ops[j]?).bind (·.dst) = some d) (hv : a.tmps[d]? = some u) {g : Bool} (hw : Wants u want g)
  {c x y : Operand} (ho : o.op = .pick c x y) {b b2 : Bool} (hc : a.eval c = gv g (.bool b))
  (hx : a.eval x = gv (g && b) (.bool b2)) (hy : a.eval y = .bool false) (h : wpList P ops Q rest (a.put o.dst (gv g (.bool (b && b2)))) w) : wpList P ops Q (o :: rest) a w :=
 wpList_guarded hgd hd hv hw (fun hG => by
  subst hG
  rw [run_pick ho (b := b) (by rw [hc]; rfl), hx, hy]
  cases b <;> rfl) h
theorem wpList_gpick_or {j : Nat} {want : Bool} (hgd : o.guard = some (j, want)) {d : Tmp} {u : Value}
  (hd : (ops[j]?).bind (·.dst) = some d) (hv : a.tmps[d]? = some u) {g : Bool} (hw : Wants u want g)
  {c x y : Operand} (ho : o.op = .pick c x y) {b b2 : Bool} (hc : a.eval c = gv g (.bool b))
  (hx : a.eval x = .bool true) (hy : a.eval y = gv (g && !b) (.bool b2)) (h : wpList P ops Q rest (a.put o.dst (gv g (.bool (b || b2)))) w) : wpList P ops Q (o :: rest) a w :=
 wpList_guarded hgd hd hv hw (fun hG => by
  subst hG
  rw [run_pick ho (b := b) (by rw [hc]; rfl), hx, hy]
  cases b <;> rfl) h
/-- Where the operation may do more: by cases on the guard. -/
theorem wpList_gsplit {j : Nat} {want : Bool} (_hgd : o.guard = some (j, want)) {d : Tmp} {b : Bool}
  (_hd : (ops[j]?).bind (·.dst) = some d) (_hv : a.tmps[d]? = some (.bool b)) (ht : b = true → wpList P ops Q (o :: rest) a w) (hf : b = false → wpList P ops Q (o :: rest) a w) : wpList P ops Q (o :: rest) a w := by
 cases b with
 | true => exact ht rfl
 | false => exact hf rfl
theorem wpList_gsplit2 {j : Nat} {want : Bool} (_hgd : o.guard = some (j, want)) {d : Tmp} {G b : Bool}
  (_hd : (ops[j]?).bind (·.dst) = some d) (_hv : a.tmps[d]? = some (gv G (.bool b))) (ht : G = true → wpList P ops Q (o :: rest) a w) (hf : G = false → wpList P ops Q (o :: rest) a w) : wpList P ops Q (o :: rest) a w := by
 cases G with
 | true => exact ht rfl
 | false => exact hf rfl
theorem wpList_isG {g : Nat × Bool} (_hgd : o.guard = some g) (h : wpList P ops Q (o :: rest) a w) : wpList P ops Q (o :: rest) a w := h
theorem wpList_isPick {c x y : Operand} (_ho : o.op = .pick c x y) (_hg : o.guard = none) (h : wpList P ops Q (o :: rest) a w) : wpList P ops Q (o :: rest) a w := h
theorem wpList_isGPick {c x y : Operand} (_ho : o.op = .pick c x y) (h : wpList P ops Q (o :: rest) a w) : wpList P ops Q (o :: rest) a w := h
/-- A guarded copy: what is copied lay behind the same guard, or behind none. -/
theorem wpList_gmove {j : Nat} {want : Bool} {x : Operand} (ho : o.op = .move x) (hgd : o.guard = some (j, want)) {d : Tmp} {u : Value}
  (hd : (ops[j]?).bind (·.dst) = some d) (hv : a.tmps[d]? = some u) {g : Bool} (hw : Wants u want g) {v : Value} (hx : a.eval x = v) (h : wpList P ops Q rest (a.put o.dst (gv g v)) w) : wpList P ops Q (o :: rest) a w :=
 wpList_guarded hgd hd hv hw (fun _ => by simp only [execOp, ho, hx]; rfl) h
theorem wpList_ggmove {j : Nat} {want : Bool} {x : Operand} (ho : o.op = .move x) (hgd : o.guard = some (j, want)) {d : Tmp} {u : Value}
  (hd : (ops[j]?).bind (·.dst) = some d) (hv : a.tmps[d]? = some u) {g : Bool} (hw : Wants u want g) {v : Value} (hx : a.eval x = gv g v) (h : wpList P ops Q rest (a.put o.dst (gv g v)) w) : wpList P ops Q (o :: rest) a w :=
 wpList_gmove ho hgd hd hv hw hx (by rw [gv_gv]; exact h)
/-- A guard that is decided: the operation stands unguarded. -/
theorem wpList_gconst {j : Nat} {want : Bool} (hgd : o.guard = some (j, want)) {d : Tmp}
  (hd : (ops[j]?).bind (·.dst) = some d) (hv : a.tmps[d]? = some (.bool want)) (h : wpList P ops Q (⟨o.dst, o.op, o.type, o.pos, o.after, none⟩ :: rest) a w) : wpList P ops Q (o :: rest) a w := by
 have e : Region.wanted o (yielded ops a.tmps) = true := by rw [wanted_of hgd hd hv]; cases want <;> rfl
 unfold wpList at h ⊢
 rw [if_pos (by simp [Region.wanted])] at h
 rw [if_pos e]
 exact h
theorem wpList_gskip {j : Nat} {want : Bool} (hgd : o.guard = some (j, want)) {d : Tmp}
  (hd : (ops[j]?).bind (·.dst) = some d) (hv : a.tmps[d]? = some (.bool (!want)) ∨ a.tmps[d]? = some undef) (h : wpList P ops Q rest (a.put o.dst undef) w) : wpList P ops Q (o :: rest) a w := by
 have e : Region.wanted o (yielded ops a.tmps) = false := by
  rcases hv with hv | hv
  ·rw [wanted_of hgd hd hv]; cases want <;> rfl
  ·rw [wanted_of hgd hd hv]; rfl
 unfold wpList
 rw [if_neg (by simp [e])]
 exact h
end
end Go.Proofs.YtcigjmlileckhaaGreatDoor
/- Blocks that are known whole: load and store of all their cells. Over any program. -/
namespace Go.Proofs.YtcigjmlileckhaaGreatDoor
open Go.RowKit
def Blk (w : World) (g : Nat) (t : TypeId) (cs : Array Value) : Prop := w.heap[g]? = some (.cells cs t (0, 0))
section
variable {w w' : World} {g : Nat} {t : TypeId} {cs : Array Value}
theorem Blk.lt (h : Blk w g t cs) : g < w.heap.size := lt_of_block h
theorem Blk.cell (h : Blk w g t cs) (i : Nat) : w.cell? ⟨g, i, none⟩ = cs[i]? := cell_of_row w g i cs t (0, 0) h
theorem Blk.frozen (h : Blk w g t cs) (i : Nat) : w.frozen? ⟨g, i, none⟩ = false := by
 unfold Blk at h
 simp [World.frozen?, h]
theorem Blk.new (w : World) (t : TypeId) (cs : Array Value) : Blk (w.alloc (.cells cs t)) w.heap.size t cs := heap_alloc_new w _
theorem Blk.of_block (h : Blk w g t cs) (hb : w'.heap[g]? = w.heap[g]?) : Blk w' g t cs := hb.trans h
theorem Blk.drew (h : Blk w g t cs) : Blk w.drew g t cs := h
theorem Blk.drewN (h : Blk w g t cs) (n : Nat) : Blk (w.drewN n) g t cs := h
theorem Blk.alloc (h : Blk w g t cs) (o : Obj) : Blk (w.alloc o) g t cs := (Below.heap_alloc w o g h.lt).trans h
theorem Blk.set_ (h : Blk w g t cs) (i : Nat) (u : Value) : Blk (w.setCell ⟨g, i, none⟩ u) g t (cs.setIfInBounds i u) := by
 unfold Blk at h ⊢
 simp [World.setCell, Array.getElem?_modify, h]
theorem Blk.far (h : Blk w g t cs) {p : Addr} (hp : g ≠ p.block) (u : Value) : Blk (w.setCell p u) g t cs := (Below.heap_setCell w p u g hp).trans h
theorem Blk.below {B : Nat} (h : Blk w g t cs) (hb : Below B w w') (hg : g < B) : Blk w' g t cs := (hb.block g hg).trans h
theorem Blk.keep {Z : Zone} (h : Blk w g t cs) (hk : Keeps Z w w') (hz : Z g) : Blk w' g t cs := (hk.block g h.lt hz).trans h
theorem Blk.ne_ {g' : Nat} {t' : TypeId} {cs' : Array Value} (h : Blk w g t cs) (h' : Blk w g' t' cs') (hne : t ≠ t') : g ≠ g' := by
 rintro rfl
 unfold Blk at h h'
 rw [h] at h'
 injection h' with h'
 injection h' with _ ht
 exact hne ht
theorem Blk.there (h : Blk w g t cs) : w.there g 0 cs.size := fun j hj => by
 rw [Nat.zero_add]
 exact ⟨by rw [h.cell]; simp [hj], h.frozen j⟩
theorem Blk.rangeAt (h : Blk w g t cs) : w.rangeAt g 0 cs.toList := fun j v hv => by
 rw [Nat.zero_add, h.cell]; simpa using hv
end
theorem heap_setCells_other (g : Nat) : ∀ (vs : List Value) (o : Nat) (w : World) (k : Nat), k ≠ g → (w.setCells g o vs).heap[k]? = w.heap[k]?
 | [], _, _, _, _ => rfl
 | v :: r, o, w, k, h => by
  unfold World.setCells
  rw [heap_setCells_other g r (o + 1) _ k h, Below.heap_setCell _ _ _ _ (by simpa using h)]
theorem size_setCells (g : Nat) : ∀ (vs : List Value) (o : Nat) (w : World), (w.setCells g o vs).heap.size = w.heap.size ∧ (w.setCells g o vs).os = w.os ∧ (w.setCells g o vs).tape = w.tape ∧ (w.setCells g o vs).output = w.output
 | [], _, _ => ⟨rfl, rfl, rfl, rfl⟩
 | v :: r, o, w => by
  unfold World.setCells
  obtain ⟨h1, h2, h3, h4⟩ := size_setCells g r (o + 1) (w.setCell ⟨g, o, none⟩ v)
  exact ⟨h1.trans (by simp [World.setCell]), h2, h3, h4⟩
def setFrom (cs : Array Value) : List Value → Nat → Array Value
 | [], _ => cs
 | v :: r, o => setFrom (cs.setIfInBounds o v) r (o + 1)
theorem Blk.setCells {g : Nat} {t : TypeId} : ∀ (vs : List Value) (o : Nat) (w : World) (cs : Array Value), Blk w g t cs → Blk (w.setCells g o vs) g t (setFrom cs vs o)
 | [], _, _, _, h => h
 | v :: r, o, w, cs, h => by
  unfold World.setCells setFrom
  exact Blk.setCells r (o + 1) _ _ (h.set_ o v)
theorem setFrom_get : ∀ (vs : List Value) (o : Nat) (cs : Array Value), o + vs.length ≤ cs.size → ∀ j, (setFrom cs vs o)[j]? = if o ≤ j ∧ j < o + vs.length then vs[j - o]? else cs[j]?
 | [], o, cs, _, j => by simp [setFrom]; omega
 | v :: r, o, cs, h, j => by
  simp only [List.length_cons] at h
  unfold setFrom
  rw [setFrom_get r (o + 1) _ (by simp; omega) j]
  by_cases h1 : o + 1 ≤ j ∧ j < o + 1 + r.length
  ·rw [if_pos h1, if_pos (by simp; omega), show j - o = (j - (o + 1)) + 1 from by omega]; simp
  ·rw [if_neg h1]
   by_cases h2 : j = o
   ·subst h2
    rw [if_pos ⟨Nat.le_refl _, by simp only [List.length_cons]; omega⟩, Nat.sub_self, Array.getElem?_setIfInBounds_self_of_lt (by omega)]; rfl
   ·rw [if_neg (by simp; omega), Array.getElem?_setIfInBounds_ne (by omega)]
theorem setFrom_all {vs : List Value} {cs : Array Value} (h : vs.length = cs.size) : setFrom cs vs 0 = vs.toArray := by
 apply Array.ext_getElem?
 intro j
 rw [setFrom_get vs 0 cs (by omega) j]
 by_cases hj : j < vs.length
 ·rw [if_pos (by omega)]; simp
 ·rw [if_neg (by omega)]; simp [Array.getElem?_eq_none (xs := cs) (i := j) (by omega)]; omega
section laws
variable {P : Program} {ops : Array Oper} {rest : List Oper} {o : Oper} {a : Act} {w : World} {Q : Exit → Act → World → Prop}
theorem wpList_store_blk (hgd : o.guard = none) (ty : TypeId) (x y : Operand) (ho : o.op = .store ty x y) {g : Nat} {t : TypeId} {cs cells : Array Value} (hx : a.eval x = .pointer (some ⟨g, 0, none⟩)) (hy : a.eval y = .agg cells)
  (hb : Blk w g t cs) (hs : cs.size = cells.size) (hi : (P.info? ty).map (·.size) = some cells.size) (h1 : cells.all (·.oneCell') = true)
  (h : ∀ w1, Blk w1 g t cells → Keeps (fun b => b ≠ g) w w1 → w1.heap.size = w.heap.size → wpList P ops Q rest (a.put o.dst undef) w1) : wpList P ops Q (o :: rest) a w := by
 refine wpList_store_mid hgd ty x y ho g 0 cells hx hy (hs ▸ hb.there) hi h1 ?_
 obtain ⟨s1, s2, s3, s4⟩ := size_setCells g cells.toList 0 w
 refine h _ ?_ ⟨s2, s3, s4, Nat.le_of_eq s1.symm, fun k _ hk => heap_setCells_other g _ 0 w k hk⟩ s1
 have := Blk.setCells cells.toList 0 w cs hb
 rwa [setFrom_all (by simpa using hs.symm), Array.toArray_toList] at this
theorem wpList_load_blk (hgd : o.guard = none) (ty : TypeId) (x : Operand) (ho : o.op = .load ty x) {g : Nat} {t : TypeId} {cs : Array Value} (hx : a.eval x = .pointer (some ⟨g, 0, none⟩)) (hb : Blk w g t cs) (d : TypeDesc)
  (hu : P.underlying ty = some d) (hd : (match d with | .struct _ | .array _ _ => true | _ => false) = true) (hi : (P.info? ty).map (·.size) = some cs.size)
  (h : wpList P ops Q rest (a.put o.dst (.agg cs)) w) : wpList P ops Q (o :: rest) a w :=
 wpList_load_row hgd ty x ho g hx t cs (0, 0) d hb hu hd hi h
end laws
theorem below2 (w : World) (o p : Obj) : Below w.heap.size w ((w.alloc o).alloc p) := (below1 w o).alloc (by simp) p
theorem own_mono {w : World} {base base' : Nat} {e : TypeId} {size n : Nat} {v : Value} {xs : List Value} (h : w.ownsRow base e size v n xs) (hb : base' ≤ base) : w.ownsRow base' e size v n xs := by
 refine ⟨h.1, ?_⟩
 rcases h.2 with hn | ⟨g, cap, cur, e1, e2, r⟩
 ·exact .inl hn
 ·exact .inr ⟨g, cap, cur, e1, Nat.le_trans hb e2, r⟩
end Go.Proofs.YtcigjmlileckhaaGreatDoor
/- Append of one element onto a row of the call's own. Over any program. -/
namespace Go.Proofs.YtcigjmlileckhaaGreatDoor
open Go.RowKit
section
variable {P : Program} {ops : Array Oper} {rest : List Oper} {o : Oper} {a : Act} {w : World} {Q : Exit → Act → World → Prop}
/-- What the table says of an element type. -/
structure ElemIs (P : Program) (e : TypeId) (size bytes : Nat) : Prop where
 pos : 0 < size
 is : ∃ i z, P.info? e = some i ∧ i.zero = some z ∧ i.size = size ∧ i.bytes = bytes ∧ z.cells.size = size
theorem elemIs_of {P : Program} {e : TypeId} {z : Value} {size bytes : Nat} (h : (P.info? e).map (fun i => (i.zero, i.size, i.bytes)) = some (some z, size, bytes)) (hz : z.cells.size = size) (hp : 0 < size) : ElemIs P e size bytes := by
 cases hi : P.info? e with
 | none => rw [hi] at h; cases h
 | some i =>
  rw [hi] at h
  simp only [Option.map_some, Option.some.injEq, Prod.mk.injEq] at h
  exact ⟨hp, i, z, hi, h.1, h.2.1, h.2.2, hz⟩
theorem run_append1 {base : Nat} {t ty e : TypeId} {size bytes : Nat} (ht : P.underlying t = some (.slice e)) (E : ElemIs P e size bytes) {v : Value} {n : Nat} {xs : List Value} (hown : w.ownsRow base e size v n xs)
  {g m c : Nat} {off : Nat} {news : List Value} (hn : news.length = m * size) (hc : ∀ j u, news[j]? = some u → w.cell? ⟨g, off + j, none⟩ = some u) (h1 : ∀ u ∈ news, u.oneCell' = true) (h63 : n + m ≤ maxLen) (hb : (n + m) * bytes ≤ 140737488355328) (hbase : base ≤ w.heap.size) :
  ∃ v' w', (Builtin.append_ #[t, t] ty #[v, .slice (some ⟨g, off, none⟩) m c]).run P w = .ok v' w' ∧ w'.ownsRow base e size v' (n + m) (xs ++ news) ∧ w.grownBy w' v.ownBlock ∧ (v'.ownBlock = v.ownBlock ∨ v'.ownBlock = some w.heap.size) := by
 obtain ⟨hp, i, z, hi, hz, hsz, hby, hzs⟩ := E
 obtain ⟨v', w', hrun, h2, h3, _, h5⟩ := run_append_own_at (P := P) w base t ty e i z size bytes ht hi hz hsz hby hzs hp v n xs hown ⟨g, off, none⟩ m c news hn
  (fun j u hu => by rw [show (⟨g, off, none⟩ : Addr).add j = ⟨g, off + j, none⟩ from by unfold Addr.add; split <;> simp_all]; exact hc j u hu) h1 h63 hb hbase
 exact ⟨v', w', hrun, h2, h3, h5⟩
theorem wpList_append1 (hgd : o.guard = none) (s x : Operand) (t : TypeId) (ho : o.op = .call { callee := .builtin .append, args := #[s, x], argTypes := #[t, t] })
  {base : Nat} {e : TypeId} {size bytes : Nat} (ht : P.underlying t = some (.slice e)) (E : ElemIs P e size bytes) {v : Value} {n : Nat} {xs : List Value} (hs : a.eval s = v) (hown : w.ownsRow base e size v n xs)
  {g m c off : Nat} (hx : a.eval x = .slice (some ⟨g, off, none⟩) m c) {news : List Value} (hn : news.length = m * size) (hc : ∀ j u, news[j]? = some u → w.cell? ⟨g, off + j, none⟩ = some u) (h1 : ∀ u ∈ news, u.oneCell' = true) (h63 : n + m ≤ maxLen) (hb : (n + m) * bytes ≤ 140737488355328) (hbase : base ≤ w.heap.size)
  (h : ∀ v' w', w'.ownsRow base e size v' (n + m) (xs ++ news) → w.grownBy w' v.ownBlock → (v'.ownBlock = v.ownBlock ∨ v'.ownBlock = some w.heap.size) → wpList P ops Q rest (a.put o.dst v') w') : wpList P ops Q (o :: rest) a w :=
 wpList_plain hgd fun K hK => by
  obtain ⟨v', w', hrun, h2, h3, h4⟩ := run_append1 (ty := o.type) ht E hown hn hc h1 h63 hb hbase
  unfold Oper.wp execOp
  simp only [ho, resolve, invoke, builtin, Sem.run_bind, Sem.run_pure, Result.andThen_ok, List.map_toArray, List.map_cons, List.map_nil, hs, hx]
  rw [hrun]
  exact hK _ _ (h v' w' h2 h3 h4)
end
theorem below_own {B : Nat} {a w w' : World} {v : Value} {base : Nat} {e : TypeId} {size n : Nat} {xs : List Value} (h : Below B a w) (hown : w.ownsRow base e size v n xs) (hg : w.grownBy w' v.ownBlock) (hB : B ≤ w.heap.size) (hb : B ≤ base) : Below B a w' :=
 h.grown hg hB (fun k hk => Nat.le_trans hb (hown.lt k hk).1)
theorem one_cell {w : World} {g : Nat} {u : Value} (h : w.cell? ⟨g, 0, none⟩ = some u) : ∀ j x, [u][j]? = some x → w.cell? ⟨g, 0 + j, none⟩ = some x := fun j x hx => by
 cases j with
 | zero => simp at hx; subst hx; simpa using h
 | succ j => simp at hx
end Go.Proofs.YtcigjmlileckhaaGreatDoor
/- Plain functions on texts and numbers that the walks speak of. No program in sight. -/
namespace Go.Proofs.YtcigjmlileckhaaGreatDoor
open Go.RowKit
def isLetter (c : UInt8) : Bool := decide (97 ≤ c.toNat ∧ c.toNat ≤ 122) || decide (65 ≤ c.toNat ∧ c.toNat ≤ 90)
def isDig (c : UInt8) : Bool := decide (48 ≤ c.toNat ∧ c.toNat ≤ 57) || decide (c.toNat = 95)
/-- Is there a byte i that may stand there in a name? -/
def nameAt (l : List UInt8) (i : Nat) : Bool := match l[i]? with | none => false | some c => isLetter c || (i != 0 && isDig c)
def nameTo (l : List UInt8) (k : Nat) : Prop := ∀ j, j < k → nameAt l j = true
/-- The program's names. -/
def isName (l : List UInt8) : Bool := match l with
 | [] => false
 | c :: r => isLetter c && r.all (fun c => isLetter c || isDig c) && decide (l.length ≤ 24)
theorem nameAt_eq {s : ByteArray} {k : Nat} (hk : k < s.size) : nameAt s.data.toList k = decide ((97 ≤ (s[k].toNat : Int) ∧ (s[k].toNat : Int) ≤ 122) ∨ (65 ≤ (s[k].toNat : Int) ∧ (s[k].toNat : Int) ≤ 90) ∨ (0 < k ∧ ((48 ≤ (s[k].toNat : Int) ∧ (s[k].toNat : Int) ≤ 57) ∨ (s[k].toNat : Int) = 95))) := by
 unfold nameAt
 have hl : k < s.data.toList.length := by simpa using hk
 rw [List.getElem?_eq_getElem hl]
 have e : s.data.toList[k] = s[k] := by simp; rfl
 simp only [e, isLetter, isDig]
 rw [Bool.eq_iff_iff]
 simp
 omega
theorem nameTo_zero (l : List UInt8) : nameTo l 0 := fun j h => absurd h (Nat.not_lt_zero j)
theorem nameTo_succ {l : List UInt8} {k : Nat} (h : nameTo l k) (hk : nameAt l k = true) : nameTo l (k + 1) := fun j hj => by
 rcases Nat.lt_succ_iff_lt_or_eq.1 hj with h' | rfl
 ·exact h j h'
 ·exact hk
theorem isName_false {l : List UInt8} {k : Nat} (hk : k < l.length) (h : nameAt l k = false) : isName l = false := by
 unfold nameAt at h
 rw [List.getElem?_eq_getElem hk] at h
 simp only at h
 cases l with
 | nil => rfl
 | cons c r =>
  unfold isName
  cases k with
  | zero => simp at h; simp [h]
  | succ k =>
   have hk' : k < r.length := by simpa using hk
   have h' : ¬ ((isLetter r[k] || isDig r[k]) = true) := by simpa using h
   have : (r.all fun c => isLetter c || isDig c) = false := by
    rw [List.all_eq_false]
    exact ⟨r[k], List.getElem_mem _, h'⟩
   show (isLetter c && (r.all fun c => isLetter c || isDig c) && _) = false
   rw [this]; simp
theorem isName_all {l : List UInt8} (h : nameTo l l.length) : isName l = (decide (l ≠ []) && decide (l.length ≤ 24)) := by
 cases l with
 | nil => rfl
 | cons c r =>
  have h0 := h 0 (by simp)
  have hr : (r.all fun c => isLetter c || isDig c) = true := by
   rw [List.all_eq_true]
   intro x hx
   obtain ⟨i, hi, rfl⟩ := List.getElem_of_mem hx
   have := h (i + 1) (by simpa using hi)
   unfold nameAt at this
   rw [List.getElem?_eq_getElem (by simpa using hi)] at this
   simpa using this
  unfold nameAt at h0
  simp at h0
  simp [isName, h0]
  exact fun _ x hx => by have := (List.all_eq_true.1 hr) x hx; simpa using this
def factOk (f : FactD) : Bool :=
 ((f.kind == 1 && f.lo == 0 && f.hi == 1) || (f.kind == 2 && decide (0 ≤ f.lo) && decide (f.lo ≤ f.hi) && decide (f.hi ≤ 1000000))) && isName f.name.data.toList
def names (ds : List FactD) : List ByteArray := ds.map (·.name)
/-- The valid domains. -/
def validDom (ds : List FactD) : Bool := ds.all factOk && decide (names ds).Nodup && decide (ds.length ≤ 60)
/-- Its first k facts stand in a valid domain. -/
def domTo (ds : List FactD) (k : Nat) : Prop := (∀ f ∈ ds.take k, factOk f = true) ∧ (names (ds.take k)).Nodup
theorem domTo_zero (ds : List FactD) : domTo ds 0 := by simp [domTo, names]
theorem take_succ_get {α : Type} {l : List α} {k : Nat} (hk : k < l.length) : l.take (k + 1) = l.take k ++ [l[k]] := by
 rw [List.take_succ_eq_append_getElem hk]
theorem domTo_succ {ds : List FactD} {k : Nat} (hk : k < ds.length) (h : domTo ds k) (h1 : factOk ds[k] = true) (h2 : ds[k].name ∉ names (ds.take k)) : domTo ds (k + 1) := by
 refine ⟨fun f hf => ?_, ?_⟩
 ·rw [take_succ_get hk, List.mem_append] at hf
  rcases hf with hf | hf
  ·exact h.1 f hf
  ·simp at hf; rw [hf]; exact h1
 ·rw [take_succ_get hk]
  simp only [names, List.map_append, List.map_cons, List.map_nil]
  rw [List.nodup_append]
  refine ⟨h.2, by simp, fun a ha b hb => ?_⟩
  simp at hb
  subst hb
  exact fun e => h2 (e ▸ ha)
theorem validDom_bad {ds : List FactD} {k : Nat} (hk : k < ds.length) (h : factOk ds[k] = false ∨ ds[k].name ∈ names (ds.take k)) : validDom ds = false := by
 rcases h with h | h
 ·have : ds.all factOk = false := by rw [List.all_eq_false]; exact ⟨ds[k], List.getElem_mem _, by simp [h]⟩
  simp [validDom, this]
 ·have hn : ¬ (names ds).Nodup := by
   intro hn
   have e : ds = ds.take k ++ ds[k] :: ds.drop (k + 1) := by rw [← List.drop_eq_getElem_cons hk]; exact (List.take_append_drop k ds).symm
   rw [e] at hn
   simp only [names, List.map_append, List.map_cons] at hn
   rw [List.nodup_append] at hn
   exact hn.2.2 _ h _ (List.mem_cons_self ..) rfl
  simp [validDom, hn]
theorem validDom_all {ds : List FactD} (h : domTo ds ds.length) : validDom ds = decide (ds.length ≤ 60) := by
 unfold domTo at h
 rw [List.take_length] at h
 have : ds.all factOk = true := List.all_eq_true.2 h.1
 simp [validDom, this, h.2]
theorem fact_bad {nm : ByteArray} {kd lo hi : Int} (h : true = (!(kd == 1 && lo == 0 && hi == 1) && !(kd == 2 && decide (0 ≤ lo) && decide (lo ≤ hi) && decide (hi ≤ 1000000)))) : factOk ⟨nm, kd, lo, hi⟩ = false := by
 have h' := h.symm
 rw [Bool.and_eq_true, Bool.not_eq_true', Bool.not_eq_true'] at h'
 unfold factOk
 simp only [h'.1, h'.2, Bool.or_self, Bool.false_and]
theorem fact_name_bad {nm : ByteArray} {kd lo hi : Int} (h : isName nm.data.toList = false) : factOk ⟨nm, kd, lo, hi⟩ = false := by
 simp [factOk, h]
theorem fact_good {nm : ByteArray} {kd lo hi : Int} (h : false = (!(kd == 1 && lo == 0 && hi == 1) && !(kd == 2 && decide (0 ≤ lo) && decide (lo ≤ hi) && decide (hi ≤ 1000000)))) (hn : isName nm.data.toList = true) : factOk ⟨nm, kd, lo, hi⟩ = true := by
 have h' := h.symm
 rw [Bool.and_eq_false_iff, Bool.not_eq_false', Bool.not_eq_false'] at h'
 unfold factOk
 rw [hn, Bool.and_true, Bool.or_eq_true]
 exact h'
theorem toList_beq (a b : ByteArray) : (a.toList == b.toList) = decide (a = b) := by
 rw [Bool.eq_iff_iff, ByteArray.toList_eq, ByteArray.toList_eq]
 simp only [beq_iff_eq, decide_eq_true_eq]
 constructor
 ·intro h
  cases a; cases b
  congr 1
  exact Array.toList_inj.1 h
 ·rintro rfl; rfl
def nameIs (ds : List FactD) (nm : ByteArray) (i : Nat) : Bool := match ds[i]? with | some f => decide (f.name = nm) | none => false
/-- The index of the first fact with a name, or -1. -/
def factIdx (ds : List FactD) (nm : ByteArray) : Int := firstIdx (nameIs ds nm) ds.length 0
def inR (f : FactD) (x : Int) : Bool := decide (f.lo ≤ x) && decide (x ≤ f.hi)
/-- The cases that fit. -/
def fits (ds : List FactD) (c : List Int) : Bool := validDom ds && decide (c.length = ds.length) && (ds.zip c).all fun p => inR p.1 p.2
def fitTo (ds : List FactD) (c : List Int) (k : Nat) : Prop := ∀ j (h1 : j < ds.length) (h2 : j < c.length), j < k → inR ds[j] c[j] = true
theorem fitTo_zero (ds : List FactD) (c : List Int) : fitTo ds c 0 := fun _ _ _ h => absurd h (Nat.not_lt_zero _)
theorem fitTo_succ {ds : List FactD} {c : List Int} {k : Nat} (h : fitTo ds c k) (h1 : k < ds.length) (h2 : k < c.length) (hk : inR ds[k] c[k] = true) : fitTo ds c (k + 1) := fun j a b hj => by
 by_cases e : j = k
 ·subst e; exact hk
 ·exact h j a b (by omega)
theorem fits_all {ds : List FactD} {c : List Int} (hv : validDom ds = true) (hl : c.length = ds.length) (h : fitTo ds c ds.length) : fits ds c = true := by
 unfold fits
 rw [hv, hl]
 simp only [decide_true, Bool.true_and]
 rw [List.all_eq_true]
 intro p hp
 obtain ⟨i, hi, rfl⟩ := List.getElem_of_mem hp
 simp only [List.length_zip, hl] at hi
 rw [List.getElem_zip]
 exact h i (by omega) (by omega) (by omega)
theorem fits_bad {ds : List FactD} {c : List Int} {k : Nat} (h1 : k < ds.length) (h2 : k < c.length) (hk : inR ds[k] c[k] = false) : fits ds c = false := by
 unfold fits
 have : ((ds.zip c).all fun p => inR p.1 p.2) = false := by
  rw [List.all_eq_false]
  exact ⟨(ds[k], c[k]), by
   have hz : (ds.zip c)[k]'(by simp; omega) = (ds[k], c[k]) := List.getElem_zip
   rw [← hz]; exact List.getElem_mem _, by simp [hk]⟩
 rw [this]; simp
def leastOf (ds : List FactD) : List Int := if validDom ds = true then ds.map FactD.lo else []
theorem leastOf_yes {ds : List FactD} (h : validDom ds = true) : leastOf ds = ds.map FactD.lo := if_pos h
theorem leastOf_no {ds : List FactD} (h : validDom ds = false) : leastOf ds = [] := if_neg (by simp [h])
namespace Fm
def op : Fm → Int | .mk o _ _ _ _ => o
def name : Fm → ByteArray | .mk _ n _ _ _ => n
def cmp : Fm → Int | .mk _ _ c _ _ => c
def num : Fm → Int | .mk _ _ _ n _ => n
def kids : Fm → List Fm | .mk _ _ _ _ k => k
end Fm
theorem FmR.form {Z : Zone} {w : World} {f : Fm} {cs : List Value} (h : FmR Z w f cs) : ∃ A cap, cs = [.int .i64 f.op, .string f.name, .int .i64 f.cmp, .int .i64 f.num, .slice A f.kids.length cap] := by
 obtain ⟨op, nm, c, n, ks⟩ := f
 unfold FmR at h
 obtain ⟨_, _, _, _, A, cap, e, _⟩ := h
 exact ⟨A, cap, e⟩
mutual
def fsize : Fm → Nat
 | .mk _ _ _ _ ks => 1 + fsizes ks
def fsizes : List Fm → Nat
 | [] => 0
 | k :: r => fsize k + fsizes r
end
mutual
def fdepth : Fm → Nat
 | .mk _ _ _ _ ks => 1 + fdepths ks
def fdepths : List Fm → Nat
 | [] => 0
 | k :: r => max (fdepth k) (fdepths r)
end
theorem fsize_eq (f : Fm) : fsize f = 1 + fsizes f.kids := by cases f; rw [fsize]; rfl
theorem fdepth_eq (f : Fm) : fdepth f = 1 + fdepths f.kids := by cases f; rw [fdepth]; rfl
theorem fsize_pos (f : Fm) : 0 < fsize f := by rw [fsize_eq]; omega
theorem fsizes_append (l m : List Fm) : fsizes (l ++ m) = fsizes l + fsizes m := by
 induction l with
 | nil => simp [fsizes]
 | cons a r ih => simp only [List.cons_append, fsizes, ih]; omega
theorem fdepths_append (l m : List Fm) : fdepths (l ++ m) = max (fdepths l) (fdepths m) := by
 induction l with
 | nil => simp [fdepths]
 | cons a r ih => simp only [List.cons_append, fdepths, ih]; omega
theorem fsizes_take_succ {l : List Fm} {k : Nat} (hk : k < l.length) : fsizes (l.take (k + 1)) = fsizes (l.take k) + fsize l[k] := by
 rw [take_succ_get hk, fsizes_append]; simp [fsizes]
theorem fdepths_take_succ {l : List Fm} {k : Nat} (hk : k < l.length) : fdepths (l.take (k + 1)) = max (fdepths (l.take k)) (fdepth l[k]) := by
 rw [take_succ_get hk, fdepths_append]; simp [fdepths]
theorem fsizes_take_le (l : List Fm) (k : Nat) : fsizes (l.take k) ≤ fsizes l := by
 have := fsizes_append (l.take k) (l.drop k)
 rw [List.take_append_drop] at this; omega
theorem fdepths_take_le (l : List Fm) (k : Nat) : fdepths (l.take k) ≤ fdepths l := by
 have := fdepths_append (l.take k) (l.drop k)
 rw [List.take_append_drop] at this; omega
theorem fsize_lt {l : List Fm} {k : Nat} (hk : k < l.length) : fsize l[k] ≤ fsizes l := by
 have h1 := fsizes_take_succ hk
 have h2 := fsizes_take_le l (k + 1)
 omega
theorem fsize_kid {f : Fm} {k : Nat} (hk : k < f.kids.length) : fsize f.kids[k] < fsize f := by
 have := fsize_lt hk; rw [fsize_eq f]; omega
theorem fdepth_lt {l : List Fm} {k : Nat} (hk : k < l.length) : fdepth l[k] ≤ fdepths l := by
 have h1 := fdepths_take_succ hk
 have h2 := fdepths_take_le l (k + 1)
 omega
theorem length_le_fsizes (l : List Fm) : l.length ≤ fsizes l := by
 induction l with
 | nil => simp [fsizes]
 | cons a r ih => have := fsize_pos a; simp only [List.length_cons, fsizes]; omega
mutual
theorem fdepth_le_fsize : ∀ f : Fm, fdepth f ≤ fsize f
 | .mk _ _ _ _ ks => by rw [fdepth, fsize]; have := fdepths_le_fsizes ks; omega
theorem fdepths_le_fsizes : ∀ l : List Fm, fdepths l ≤ fsizes l
 | [] => by simp [fdepths]
 | k :: r => by rw [fdepths, fsizes]; have := fdepth_le_fsize k; have := fdepths_le_fsizes r; have := fsize_pos k; omega
end
mutual
/-- The first error, a node ahead of its kids. -/
def firstErr (L : Fm → Int) : Fm → Int
 | .mk o nm c n ks => if L (.mk o nm c n ks) = 0 then firstErrs L ks else L (.mk o nm c n ks)
def firstErrs (L : Fm → Int) : List Fm → Int
 | [] => 0
 | k :: r => if firstErr L k = 0 then firstErrs L r else firstErr L k
end
theorem firstErr_eq (L : Fm → Int) (f : Fm) : firstErr L f = if L f = 0 then firstErrs L f.kids else L f := by cases f; rw [firstErr]; rfl
theorem firstErrs_append (L : Fm → Int) (l m : List Fm) : firstErrs L (l ++ m) = if firstErrs L l = 0 then firstErrs L m else firstErrs L l := by
 induction l with
 | nil => simp [firstErrs]
 | cons a r ih =>
  simp only [List.cons_append, firstErrs]
  by_cases h : firstErr L a = 0
  ·simp only [h, if_true, ih]
  ·simp only [if_neg h]
theorem firstErrs_take_succ (L : Fm → Int) {l : List Fm} {k : Nat} (hk : k < l.length) : firstErrs L (l.take (k + 1)) = if firstErrs L (l.take k) = 0 then firstErr L l[k] else firstErrs L (l.take k) := by
 rw [take_succ_get hk, firstErrs_append]
 congr 1
 simp only [firstErrs]
 split <;> simp_all
theorem firstErrs_take_stop (L : Fm → Int) {l : List Fm} {k : Nat} (h : firstErrs L (l.take k) ≠ 0) : firstErrs L l = firstErrs L (l.take k) := by
 have := firstErrs_append L (l.take k) (l.drop k)
 rw [List.take_append_drop, if_neg h] at this
 exact this
/-- What is known of the error behind the first k kids. -/
def errTo (L : Fm → Int) (f : Fm) (k : Nat) : Int := if L f = 0 then firstErrs L (f.kids.take k) else L f
theorem errTo_zero (L : Fm → Int) (f : Fm) : errTo L f 0 = L f := by unfold errTo; split <;> simp_all [firstErrs]
theorem errTo_succ (L : Fm → Int) {f : Fm} {k : Nat} (hk : k < f.kids.length) (h : errTo L f k = 0) : errTo L f (k + 1) = firstErr L f.kids[k] := by
 unfold errTo at h ⊢
 by_cases h0 : L f = 0
 ·rw [if_pos h0] at h ⊢
  rw [firstErrs_take_succ L hk, if_pos h]
 ·rw [if_neg h0] at h; exact absurd h h0
theorem errTo_stop (L : Fm → Int) {f : Fm} {k : Nat} (h : errTo L f k ≠ 0) : firstErr L f = errTo L f k := by
 rw [firstErr_eq]
 unfold errTo at h ⊢
 by_cases h0 : L f = 0
 ·rw [if_pos h0] at h ⊢
  rw [if_pos h0]
  exact firstErrs_take_stop L h
 ·rw [if_neg h0, if_neg h0]
theorem errTo_all (L : Fm → Int) (f : Fm) : errTo L f f.kids.length = firstErr L f := by
 unfold errTo; rw [firstErr_eq, List.take_length]
def isLarge (f : Fm) : Bool := decide (200 < fsize f) || decide (20 < fdepth f)
end Go.Proofs.YtcigjmlileckhaaGreatDoor
