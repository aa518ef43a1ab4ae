/- Walks of package diagram: compare, known; what is left of a formula, in plain. The list of formulas that a call puts together, in a row of its own. What is left of a formula, in plain. Plain: what is left of a formula if a fact has a value. No program in sight. Walk of formula.Holds. Plain: the diagram of a formula. No program in sight. Plain: the examples of the chapter, reckoned. No program in sight. -/
import Derived.Test.YtcigjmlileckhaaGreatDoorM23
import Derived.Test.YtcigjmlileckhaaGreatDoorM1
import Derived.Test.YtcigjmlileckhaaGreatDoorM6
import Derived.Test.YtcigjmlileckhaaGreatDoorM2
/- Walks of package diagram: compare, known; what is left of a formula, in plain. -/
namespace Go.Proofs.YtcigjmlileckhaaGreatDoor
open Go.RowKit
/-- diagram.compare. -/
def cmpD (x cm n : Int) : Bool :=
 if cm = 1 then x == n else if cm = 2 then x != n else if cm = 3 then decide (x < n) else if cm = 4 then decide (x ≤ n) else if cm = 5 then decide (n < x) else decide (n ≤ x)
theorem cmpD_eq {x cm n : Int} (h1 : 1 ≤ cm) (h6 : cm ≤ 6) : cmpD x cm n = cmpv x cm n := by
 unfold cmpD cmpv
 have hcc : cm = 1 ∨ cm = 2 ∨ cm = 3 ∨ cm = 4 ∨ cm = 5 ∨ cm = 6 := by omega
 rcases hcc with rfl | rfl | rfl | rfl | rfl | rfl <;> simp
set_option maxRecDepth 100000 in
set_option maxHeartbeats 1000000 in
theorem compare_any (x cm n : Int) (w : World) : Calls Tryz.prog 95 #[.int .i64 x, .int .i64 cm, .int .i64 n] w fun e w' => e = .returned (.bool (cmpD x cm n)) ∧ w' = w := by
 have HE := hid (show cmpD x cm n = _ from rfl)
 go_enter Tryz.func95, Tryz.ntmps95
 go_wp2
 all_goals (go_ret; refine ⟨ret_bool ?_, rfl⟩; unfold cmpD; simp_all)
def knOp (b : Bool) : Int := if b then 1 else 2
/-- What known returns. -/
def kn (b : Bool) : Fm := .mk (knOp b) ⟨#[]⟩ 0 0 []
def knV (b : Bool) : Value := .agg #[.int .i64 (knOp b), .string ⟨#[]⟩, .int .i64 0, .int .i64 0, .slice none 0 0]
theorem kn_FmR (Z : Zone) (w : World) (b : Bool) : FmR Z w (kn b) [.int .i64 (knOp b), .string ⟨#[]⟩, .int .i64 0, .int .i64 0, .slice none 0 0] := by
 unfold kn FmR
 refine ⟨by cases b <;> simp [I64, knOp], by decide, by simp [I64], by simp [I64], none, 0, rfl, Nat.le_refl _, by decide, by simp, ?_⟩
 simp [FmsR]
set_option maxRecDepth 100000 in
set_option maxHeartbeats 1000000 in
theorem known_any (b : Bool) (w : World) : Calls Tryz.prog 94 #[.bool b] w fun e w' => e = .returned (knV b) ∧ Below w.heap.size w w' := by
 unfold knV
 go_enter Tryz.func94, Tryz.ntmps94
 cases b
 ·go_wp2
  refine bodyPost_ret (v := knV false) (by simp [results, Tryz.results94, go_sem]; rfl) rfl ⟨rfl, ?_⟩
  (repeat (first | exact Below.refl _ _ | assumption | refine below_drewN' ?_ _ | refine Below.drew ?_ | (refine Below.setCell ?_ (by first | exact Nat.le_refl _ | (simp; done) | (simp; omega) | omega) _) | (refine Below.alloc ?_ (by first | exact Nat.le_refl _ | (simp; done) | (simp; omega) | omega) _)))
 ·go_wp2
  refine bodyPost_ret (v := knV true) (by simp [results, Tryz.results94, go_sem]; rfl) rfl ⟨rfl, ?_⟩
  (repeat (first | exact Below.refl _ _ | assumption | refine below_drewN' ?_ _ | refine Below.drew ?_ | (refine Below.setCell ?_ (by first | exact Nat.le_refl _ | (simp; done) | (simp; omega) | omega) _) | (refine Below.alloc ?_ (by first | exact Nat.le_refl _ | (simp; done) | (simp; omega) | omega) _)))
end Go.Proofs.YtcigjmlileckhaaGreatDoor
/- The list of formulas that a call puts together, in a row of its own. -/
namespace Go.Proofs.YtcigjmlileckhaaGreatDoor
open Go.RowKit
mutual
/-- What a formula stands in is there. -/
theorem FmR.live {Z : Zone} {w : World} : ∀ (f : Fm) (cs : List Value), FmR Z w f cs → FmR (fun b => Z b ∧ b < w.heap.size) w f cs
 | .mk op nm c n kids, cs, h => by
  unfold FmR at h ⊢
  obtain ⟨h1, h2, h3, h4, A, cap, e, h5, h6, h6b, h7⟩ := h
  exact ⟨h1, h2, h3, h4, A, cap, e, h5, h6, h6b, FmsR.live kids A h7⟩
theorem FmsR.live {Z : Zone} {w : World} : ∀ (l : List Fm) (A : Option Addr), FmsR Z w l A → FmsR (fun b => Z b ∧ b < w.heap.size) w l A
 | [], _, _ => by unfold FmsR; trivial
 | k :: ks, A, h => by
  unfold FmsR at h ⊢
  obtain ⟨b, off, cs, e, hz, hc, h1, h2⟩ := h
  have hlt : b < w.heap.size := by
   obtain ⟨A', cap', rfl⟩ := FmR.form h1
   have := hc 0 _ rfl
   exact lt_of_cell this
  exact ⟨b, off, cs, e, ⟨hz, hlt⟩, hc, FmR.live k cs h1, FmsR.live ks _ h2⟩
end
theorem box5 {w : World} {B : Nat} {t : TypeId} {v0 v1 v2 v3 v4 : Value} (h : Blk w B t #[v0, v1, v2, v3, v4]) :
  (w.cell? ⟨B, 0, none⟩ = some v0 ∧ w.cell? ⟨B, 1, none⟩ = some v1 ∧ w.cell? ⟨B, 2, none⟩ = some v2 ∧ w.cell? ⟨B, 3, none⟩ = some v3 ∧ w.cell? ⟨B, 4, none⟩ = some v4) ∧ (∀ i, w.frozen? ⟨B, i, none⟩ = false) :=
 ⟨⟨h.cell 0, h.cell 1, h.cell 2, h.cell 3, h.cell 4⟩, h.frozen⟩
theorem Tryz.szF : (Tryz.prog.info? 24).map (·.size) = some 5 := by kernel_rfl
theorem below_blk {B g : Nat} {w w1 w2 : World} (h : Below B w w1) (hk : Keeps (fun b => b ≠ g) w1 w2) (hg : B ≤ g) (hB : B ≤ w1.heap.size) : Below B w w2 := h.trans ⟨hk.os, hk.tape, hk.output, hk.size, fun k hk' => hk.block k (by omega) (by omega)⟩
theorem Tryz.eFm : ElemIs Tryz.prog 24 5 64 := elemIs_of (z := .agg #[.int .i64 0, .string ⟨#[]⟩, .int .i64 0, .int .i64 0, .slice none 0 0]) (by kernel_rfl) rfl (by decide)
/-- Formulas and their cells, one for one. -/
def FmL (Z : Zone) (w : World) : List Fm → List (List Value) → Prop
 | [], [] => True
 | f :: fs, c :: cs => FmR Z w f c ∧ FmL Z w fs cs
 | _, _ => False
theorem FmL.keep {Z : Zone} {w w' : World} (hk : Keeps Z w w') : ∀ {fs : List Fm} {csl : List (List Value)}, FmL Z w fs csl → FmL Z w' fs csl
 | [], [], _ => trivial
 | _ :: _, _ :: _, h => ⟨FmR.keep hk _ _ h.1, FmL.keep hk h.2⟩
 | [], _ :: _, h => h.elim
 | _ :: _, [], h => h.elim
theorem FmL.mono {Z Z' : Zone} {w : World} (hz : ∀ b, Z b → Z' b) : ∀ {fs : List Fm} {csl : List (List Value)}, FmL Z w fs csl → FmL Z' w fs csl
 | [], [], _ => trivial
 | _ :: _, _ :: _, h => ⟨FmR.mono hz _ _ h.1, FmL.mono hz h.2⟩
 | [], _ :: _, h => h.elim
 | _ :: _, [], h => h.elim
theorem FmL.snoc {Z : Zone} {w : World} {f : Fm} {c : List Value} (hf : FmR Z w f c) : ∀ {fs : List Fm} {csl : List (List Value)}, FmL Z w fs csl → FmL Z w (fs ++ [f]) (csl ++ [c])
 | [], [], _ => ⟨hf, trivial⟩
 | _ :: _, _ :: _, h => ⟨h.1, FmL.snoc hf h.2⟩
 | [], _ :: _, h => h.elim
 | _ :: _, [], h => h.elim
theorem FmL.rows {Z : Zone} {w : World} {b : Nat} (hb : Z b) : ∀ {fs : List Fm} {csl : List (List Value)} {off : Nat}, FmL Z w fs csl → (∀ j u, csl.flatten[j]? = some u → w.cell? ⟨b, off + j, none⟩ = some u) → FmsR Z w fs (some ⟨b, off, none⟩)
 | [], [], _, _, _ => by unfold FmsR; trivial
 | f :: fs, c :: cs, off, h, hc => by
  unfold FmsR
  have hl : c.length = 5 := by obtain ⟨A, cap, rfl⟩ := FmR.form h.1; rfl
  refine ⟨b, off, c, rfl, hb, fun j u hu => ?_, h.1, FmL.rows hb h.2 fun j u hu => ?_⟩
  ·refine hc j u ?_
   rw [List.flatten_cons, List.getElem?_append_left (by have := List.getElem?_eq_some_iff.1 hu; obtain ⟨h, _⟩ := this; exact h)]; exact hu
  ·have := hc (5 + j) u (by rw [List.flatten_cons, List.getElem?_append_right (by omega)]; rw [show 5 + j - c.length = j by omega]; exact hu)
   rwa [show off + 5 + j = off + (5 + j) by omega]
 | [], _ :: _, _, h, _ => h.elim
 | _ :: _, [], _, h, _ => h.elim
theorem FmL.size {Z : Zone} {w : World} : ∀ {fs : List Fm} {csl : List (List Value)}, FmL Z w fs csl → csl.flatten.length = fs.length * 5
 | [], [], _ => rfl
 | f :: fs, c :: cs, h => by
  have hl : c.length = 5 := by obtain ⟨A, cap, rfl⟩ := FmR.form h.1; rfl
  rw [List.flatten_cons, List.length_append, FmL.size h.2, hl, List.length_cons]; omega
 | [], _ :: _, h => h.elim
 | _ :: _, [], h => h.elim
/-- A row of formulas, in a block of its own. -/
def KidsOwn (Z : Zone) (base : Nat) (w : World) (v : Value) (fs : List Fm) : Prop :=
 ∃ csl, w.ownsRow base 24 5 v fs.length csl.flatten ∧ FmL (fun b => Z b ∧ b < w.heap.size ∧ v.ownBlock ≠ some b) w fs csl
theorem KidsOwn.nil (Z : Zone) (base : Nat) (w : World) : KidsOwn Z base w (.slice none 0 0) [] := ⟨[], own_nil _ _ _ _, trivial⟩
theorem KidsOwn.below {Z : Zone} {base : Nat} {w w' : World} {v : Value} {fs : List Fm} (h : KidsOwn Z base w v fs) (hb : Below w.heap.size w w') : KidsOwn Z base w' v fs := by
 obtain ⟨csl, h1, h2⟩ := h
 exact ⟨csl, own_below h1 hb, FmL.mono (fun b h => ⟨h.1, Nat.lt_of_lt_of_le h.2.1 hb.size, h.2.2⟩) (FmL.keep (.of_below hb) h2)⟩
theorem KidsOwn.grow {Z : Zone} {base : Nat} {w w' : World} {v v' : Value} {fs : List Fm} {csl : List (List Value)} {k : Fm} {cs : List Value} (h2 : FmL (fun b => Z b ∧ b < w.heap.size ∧ v.ownBlock ≠ some b) w fs csl)
  (hk : FmR (fun b => Z b ∧ b < w.heap.size ∧ v.ownBlock ≠ some b) w k cs) (ho : w'.ownsRow base 24 5 v' (fs.length + 1) (csl.flatten ++ cs)) (hg : w.grownBy w' v.ownBlock) (hv : v'.ownBlock = v.ownBlock ∨ v'.ownBlock = some w.heap.size) :
  KidsOwn Z base w' v' (fs ++ [k]) := by
 have hkp : Keeps (fun b => Z b ∧ b < w.heap.size ∧ v.ownBlock ≠ some b) w w' := ⟨hg.os, hg.tape, hg.output, hg.size, fun b hb hz => hg.block b hb fun e => hz.2.2 e.symm⟩
 refine ⟨csl ++ [cs], by simpa using ho, FmL.mono (fun b hb => ⟨hb.1, Nat.lt_of_lt_of_le hb.2.1 hg.size, ?_⟩) (FmL.snoc (FmR.keep hkp _ _ hk) (FmL.keep hkp h2))⟩
 rcases hv with e | e
 ·rw [e]; exact hb.2.2
 ·rw [e]; intro e2; injection e2 with e2; have := hb.2.1; omega
theorem KidsOwn.done {Z : Zone} {base : Nat} {w : World} {v : Value} {fs : List Fm} (h : KidsOwn Z base w v fs) :
  ∃ A cap, v = .slice A fs.length cap ∧ fs.length ≤ cap ∧ cap ≤ maxLen ∧ FmsR (fun b => Z b ∨ base ≤ b) w fs A := by
 obtain ⟨csl, h1, h2⟩ := h
 obtain ⟨A, cap, rfl, h3, h4, h5⟩ := Row.of_own h1 (by decide)
 refine ⟨A, cap, rfl, h3, h4, ?_⟩
 cases fs with
 | nil => unfold FmsR; trivial
 | cons f fs =>
  have hne : csl.flatten ≠ [] := by
   have := FmL.size h2
   intro e; rw [e] at this; simp at this
  obtain ⟨b, off, rfl, hz, hc⟩ := h5 hne
  exact FmL.rows (Or.inr hz) (FmL.mono (fun b h => Or.inl h.1) h2) hc
end Go.Proofs.YtcigjmlileckhaaGreatDoor
/- What is left of a formula, in plain. -/
namespace Go.Proofs.YtcigjmlileckhaaGreatDoor
open Go.RowKit
def notS (k : Fm) : Fm := if k.op = 1 ∨ k.op = 2 then kn (k.op == 2) else .mk 4 ⟨#[]⟩ 0 0 [k]
def unitS (op : Int) : Int := if op = 6 then 2 else 1
def zeroS (op : Int) : Int := if op = 6 then 1 else 2
def keptS (op : Int) (ks : List Fm) : List Fm := ks.filter fun k => k.op != unitS op
def joinS (op : Int) (ks : List Fm) : Fm :=
 match ks.find? (fun k => k.op == zeroS op) with
 | some k => k
 | none => match keptS op ks with
  | [] => .mk (unitS op) ⟨#[]⟩ 0 0 []
  | [k] => k
  | r => .mk op ⟨#[]⟩ 0 0 r
mutual
/-- What is left of a formula if a fact has a value. -/
def givenS (nm : ByteArray) (x : Int) : Fm → Fm
 | .mk op name cm nu kids =>
  if op = 3 then (if name = nm then kn (cmpD x cm nu) else .mk op name cm nu kids)
  else if op = 4 then (match givenL nm x kids with | k :: _ => notS k | [] => .mk op name cm nu kids)
  else if op = 5 ∨ op = 6 then joinS op (givenL nm x kids) else .mk op name cm nu kids
def givenL (nm : ByteArray) (x : Int) : List Fm → List Fm
 | [] => []
 | k :: ks => givenS nm x k :: givenL nm x ks
end
theorem givenL_map (nm : ByteArray) (x : Int) : ∀ l, givenL nm x l = l.map (givenS nm x)
 | [] => by simp [givenL]
 | k :: ks => by simp [givenL, givenL_map nm x ks]
theorem givenS_eq (nm : ByteArray) (x : Int) (f : Fm) : givenS nm x f = 
  if f.op = 3 then (if f.name = nm then kn (cmpD x f.cmp f.num) else f)
  else if f.op = 4 then (match givenL nm x f.kids with | k :: _ => notS k | [] => f)
  else if f.op = 5 ∨ f.op = 6 then joinS f.op (givenL nm x f.kids) else f := by
 cases f; rw [givenS]; rfl
theorem joinS_zero {op : Int} {ks : List Fm} {k : Nat} (hk : k < ks.length) (h : ∀ j (hj : j < ks.length), j < k → ks[j].op ≠ zeroS op) (hz : ks[k].op = zeroS op) : joinS op ks = ks[k] := by
 have : ks.find? (fun k => k.op == zeroS op) = some ks[k] := by
  rw [List.find?_eq_some_iff_getElem]
  exact ⟨by simp [hz], k, hk, rfl, fun j hj => by simpa using h j (by omega) hj⟩
 unfold joinS; rw [this]
theorem joinS_end {op : Int} {ks : List Fm} (h : ∀ j (hj : j < ks.length), ks[j].op ≠ zeroS op) : joinS op ks = match keptS op ks with | [] => .mk (unitS op) ⟨#[]⟩ 0 0 [] | [k] => k | r => .mk op ⟨#[]⟩ 0 0 r := by
 have : ks.find? (fun k => k.op == zeroS op) = none := by
  rw [List.find?_eq_none]
  intro x hx
  obtain ⟨j, hj, rfl⟩ := List.getElem_of_mem hx
  simpa using h j hj
 unfold joinS; rw [this]
theorem keptS_unit {op : Int} {ks : List Fm} {k : Nat} (hk : k < ks.length) (h : ks[k].op = unitS op) : keptS op (ks.take (k + 1)) = keptS op (ks.take k) := by
 unfold keptS; rw [take_succ_get hk, List.filter_append]; simp [h]
theorem keptS_keep {op : Int} {ks : List Fm} {k : Nat} (hk : k < ks.length) (h : ks[k].op ≠ unitS op) : keptS op (ks.take (k + 1)) = keptS op (ks.take k) ++ [ks[k]] := by
 unfold keptS; rw [take_succ_get hk, List.filter_append]; simp [h]
theorem keptS_len {op : Int} {ks : List Fm} (k : Nat) : (keptS op (ks.take k)).length ≤ ks.length := by
 unfold keptS
 exact Nat.le_trans (List.length_filter_le _ _) (by simp; omega)
/-- A formula comes back, in cells of the call's own beside those that came in. -/
def GivenPost (Z : Zone) (g : Fm) (w : World) (e : Ending) (w' : World) : Prop :=
 ∃ cs, e = .returned (.agg cs.toArray) ∧ FmR (fun b => Z b ∨ w.heap.size ≤ b) w' g cs ∧ Below w.heap.size w w'
def GivenIH (nm : ByteArray) (x : Int) (ds : List FactD) (m : Nat) : Prop := ∀ (f : Fm), fsize f ≤ m → fsize f ≤ 1000000 → ∀ (Z : Zone) (cs : List Value) (w : World), FmR Z w f cs → firstErr (checkLook ds) f = 0 →
  Calls Tryz.prog 45 #[.agg cs.toArray, .string nm, .int .i64 x] w (GivenPost Z (givenS nm x f) w)
end Go.Proofs.YtcigjmlileckhaaGreatDoor
/- Plain: what is left of a formula if a fact has a value. No program in sight. -/
namespace Go.Proofs.YtcigjmlileckhaaGreatDoor
open Go.RowKit
mutual
def testN (nm : ByteArray) : Fm → List Int
 | .mk op name _ nu kids => (if op = 3 ∧ name = nm then [nu] else []) ++ testNs nm kids
def testNs (nm : ByteArray) : List Fm → List Int
 | [] => []
 | k :: r => testN nm k ++ testNs nm r
end
mutual
def namesF : Fm → List ByteArray
 | .mk op name _ _ kids => (if op = 3 then [name] else []) ++ namesFs kids
def namesFs : List Fm → List ByteArray
 | [] => []
 | k :: r => namesF k ++ namesFs r
end
theorem namesFs_mem {l : List Fm} {n : ByteArray} : n ∈ namesFs l ↔ ∃ k ∈ l, n ∈ namesF k := by
 induction l with
 | nil => simp [namesFs]
 | cons a r ih => simp [namesFs, ih]
mutual
/-- No constant in it. -/
def noC : Fm → Bool
 | .mk op _ _ _ kids => if op = 3 then true else (decide (op = 4) || decide (op = 5) || decide (op = 6)) && decide (kids ≠ []) && noCs kids
def noCs : List Fm → Bool
 | [] => true
 | k :: r => noC k && noCs r
end
theorem noC_eq (f : Fm) : noC f = if f.op = 3 then true else (decide (f.op = 4) || decide (f.op = 5) || decide (f.op = 6)) && decide (f.kids ≠ []) && noCs f.kids := by
 cases f; rw [noC]; rfl
theorem noCs_all : ∀ (l : List Fm), noCs l = true ↔ ∀ k ∈ l, noC k = true
 | [] => by simp [noCs]
 | k :: r => by simp [noCs, noCs_all r]
def isC (f : Fm) : Prop := f.op = 1 ∨ f.op = 2
def redF (f : Fm) : Prop := isC f ∨ noC f = true
theorem cmpv_side {v x cm n : Int} (h1 : v < n ↔ x < n) (h2 : v < n + 1 ↔ x < n + 1) : cmpv v cm n = cmpv x cm n := by
 have a : (v == n) = (x == n) := by rw [Bool.eq_iff_iff, beq_iff_eq, beq_iff_eq]; omega
 have b : (v != n) = (x != n) := by unfold bne; rw [a]
 have c : decide (v < n) = decide (x < n) := by rw [decide_eq_decide]; omega
 have d : decide (v ≤ n) = decide (x ≤ n) := by rw [decide_eq_decide]; omega
 have e : decide (n < v) = decide (n < x) := by rw [decide_eq_decide]; omega
 have f : decide (n ≤ v) = decide (n ≤ x) := by rw [decide_eq_decide]; omega
 unfold cmpv
 rw [a, b, c, d, e, f]
section evs
variable {ds : List FactD} {c : List Int}
theorem evF_kn (b : Bool) : evF ds c (kn b) = b := by
 unfold kn knOp; rw [evF]; cases b <;> simp
theorem evF_one {f : Fm} (h : f.op = 1) : evF ds c f = true := by rw [evF_eq, h]; simp
theorem evF_two {f : Fm} (h : f.op = 2) : evF ds c f = false := by rw [evF_eq, h]; simp
theorem evF_not (k : Fm) : evF ds c (notS k) = !evF ds c k := by
 unfold notS
 split
 ·rename_i h
  rw [evF_kn]
  rcases h with h | h
  ·rw [evF_one h, h]; simp
  ·rw [evF_two h, h]; simp
 ·rw [evF]; simp [anyF]
theorem all_filter_one (ks : List Fm) : (ks.filter fun k => k.op != 1).all (evF ds c) = ks.all (evF ds c) := by
 induction ks with
 | nil => rfl
 | cons k r ih =>
  rw [List.filter_cons]
  by_cases h : k.op = 1
  ·rw [if_neg (by simp [h]), ih, List.all_cons, evF_one h]; rfl
  ·rw [if_pos (by simp [h]), List.all_cons, List.all_cons, ih]
theorem any_filter_two (ks : List Fm) : (ks.filter fun k => k.op != 2).any (evF ds c) = ks.any (evF ds c) := by
 induction ks with
 | nil => rfl
 | cons k r ih =>
  rw [List.filter_cons]
  by_cases h : k.op = 2
  ·rw [if_neg (by simp [h]), ih, List.any_cons, evF_two h]; rfl
  ·rw [if_pos (by simp [h]), List.any_cons, List.any_cons, ih]
theorem evF_join5 (ks : List Fm) : evF ds c (joinS 5 ks) = ks.all (evF ds c) := by
 unfold joinS
 have ez : zeroS 5 = 2 := by decide
 have eu : unitS 5 = 1 := by decide
 rw [ez]
 split
 ·rename_i k hk
  have hm := List.mem_of_find?_eq_some hk
  have hp := List.find?_some hk
  simp only [beq_iff_eq] at hp
  rw [evF_two hp]
  symm
  rw [List.all_eq_false]
  exact ⟨k, hm, by rw [evF_two hp]; simp⟩
 ·rw [← all_filter_one]
  unfold keptS
  rw [eu]
  split
  ·rename_i h; rw [h]; rw [evF_one rfl]; rfl
  ·rename_i k h; rw [h]; simp
  ·rename_i r _ _
   rw [evF]; simp [allF_all]
theorem evF_join6 (ks : List Fm) : evF ds c (joinS 6 ks) = ks.any (evF ds c) := by
 unfold joinS
 have ez : zeroS 6 = 1 := by decide
 have eu : unitS 6 = 2 := by decide
 rw [ez]
 split
 ·rename_i k hk
  have hm := List.mem_of_find?_eq_some hk
  have hp := List.find?_some hk
  simp only [beq_iff_eq] at hp
  rw [evF_one hp]
  symm
  rw [List.any_eq_true]
  exact ⟨k, hm, evF_one hp⟩
 ·rw [← any_filter_two]
  unfold keptS
  rw [eu]
  split
  ·rename_i h; rw [h]; rw [evF_two rfl]; rfl
  ·rename_i k h; rw [h]; simp
  ·rename_i r _ _
   rw [evF]; simp [anyF_any]
end evs
theorem formed_parts {f : Fm} (h : formedS f = true) :
  (f.op = 3 ∧ f.kids = [] ∧ 1 ≤ f.cmp ∧ f.cmp ≤ 6 ∧ isName f.name.data.toList = true) ∨
  (f.name = ⟨#[]⟩ ∧ ((f.op = 1 ∨ f.op = 2) ∧ f.kids = [] ∨ f.op = 4 ∧ f.kids.length = 1 ∨ (f.op = 5 ∨ f.op = 6) ∧ 2 ≤ f.kids.length)) := by
 by_cases h3 : f.op = 3
 ·rw [formedS_test h3] at h
  simp only [Bool.and_eq_true, decide_eq_true_eq, identS_eq] at h
  exact Or.inl ⟨h3, List.eq_nil_of_length_eq_zero h.1.1.1.1, h.1.1.1.2, h.1.1.2, h.1.2⟩
 ·rw [formedS_tail h3] at h
  split at h
  ·cases h
  ·rename_i hb
   simp only [not_or, ne_eq, Decidable.not_not] at hb
   refine Or.inr ⟨hb.1, ?_⟩
   split at h
   ·rename_i h12; exact Or.inl ⟨h12, List.eq_nil_of_length_eq_zero (by simpa using h)⟩
   ·split at h
    ·rename_i h4; exact Or.inr (Or.inl ⟨h4, by simpa using h⟩)
    ·simp only [Bool.and_eq_true, Bool.or_eq_true, decide_eq_true_eq] at h
     exact Or.inr (Or.inr h)
def okF (ds : List FactD) (f : Fm) : Prop := firstErr (checkLook ds) f = 0
def okFs (ds : List FactD) (l : List Fm) : Prop := firstErrs (checkLook ds) l = 0
theorem okF_mk {ds : List FactD} {op : Int} {nm : ByteArray} {cm nu : Int} {kids : List Fm} (h : okF ds (.mk op nm cm nu kids)) : formedS (.mk op nm cm nu kids) = true ∧ okFs ds kids ∧ (op = 3 → 0 ≤ factIdx ds nm) := by
 obtain ⟨h0, hk⟩ := firstErr_zero h
 obtain ⟨h1, h2⟩ := checkLook_test h0
 exact ⟨h1, hk, fun h3 => (h2 h3).2.2⟩
theorem okFs_cons {ds : List FactD} {k : Fm} {r : List Fm} : okFs ds (k :: r) ↔ okF ds k ∧ okFs ds r := by
 unfold okFs okF
 rw [firstErrs]
 split
 ·rename_i h; simp [h]
 ·rename_i h; simp [h]
theorem okFs_all {ds : List FactD} : ∀ {l : List Fm}, okFs ds l ↔ ∀ k ∈ l, okF ds k
 | [] => by simp [okFs, firstErrs]
 | k :: r => by rw [okFs_cons, okFs_all]; simp
section given
variable {ds : List FactD} {nm : ByteArray} {v : Int}
mutual
theorem evF_given {c : List Int} : ∀ f, okF ds f → (∀ n ∈ testN nm f, (v < n ↔ c.getD (factIdx ds nm).toNat 0 < n) ∧ (v < n + 1 ↔ c.getD (factIdx ds nm).toNat 0 < n + 1)) → evF ds c (givenS nm v f) = evF ds c f
 | .mk op name cm nu kids, hok, ht => by
  obtain ⟨hf, hks, _⟩ := okF_mk hok
  have hkl := evF_givens (c := c) kids hks (fun n hn => ht n (by rw [testN]; exact List.mem_append_right _ hn))
  rw [givenS]
  by_cases h3 : op = 3
  ·rw [if_pos h3]
   by_cases hn : name = nm
   ·rw [if_pos hn, evF_kn]
    rcases formed_parts hf with ⟨_, _, h1, h6, _⟩ | ⟨_, h⟩
    ·simp only [Fm.cmp] at h1 h6
     rw [evF, if_pos h3, hn, cmpD_eq h1 h6]
     have := ht nu (by rw [testN, if_pos ⟨h3, hn⟩]; simp)
     exact cmpv_side this.1 this.2
    ·simp only [Fm.op] at h; omega
   ·rw [if_neg hn]
  ·rw [if_neg h3]
   by_cases h4 : op = 4
   ·rw [if_pos h4]
    have hl : kids.length = 1 := by
     rcases formed_parts hf with ⟨h, _⟩ | ⟨_, h⟩
     ·exact absurd h h3
     ·simp only [Fm.op, Fm.kids] at h; omega
    match kids, hl, hkl with
    | [k], _, hkl =>
     simp only [givenL, List.map_cons, List.map_nil, List.cons.injEq, and_true] at hkl ⊢
     rw [evF_not, hkl, evF, if_neg h3, if_pos h4]; simp [anyF]
   ·rw [if_neg h4]
    by_cases h56 : op = 5 ∨ op = 6
    ·rw [if_pos h56]
     rcases h56 with rfl | rfl
     ·rw [evF_join5, evF]; simp only [allF_all]
      have := congrArg (fun l : List Bool => l.all id) hkl
      simpa [List.all_map] using this
     ·rw [evF_join6, evF]; simp only [anyF_any]
      have := congrArg (fun l : List Bool => l.any id) hkl
      simpa [List.any_map] using this
    ·rw [if_neg h56]
theorem evF_givens {c : List Int} : ∀ l, okFs ds l → (∀ n ∈ testNs nm l, (v < n ↔ c.getD (factIdx ds nm).toNat 0 < n) ∧ (v < n + 1 ↔ c.getD (factIdx ds nm).toNat 0 < n + 1)) → (givenL nm v l).map (evF ds c) = l.map (evF ds c)
 | [], _, _ => by simp [givenL]
 | k :: r, hok, ht => by
  rw [okFs_cons] at hok
  rw [givenL, List.map_cons, List.map_cons, evF_given k hok.1 (fun n hn => ht n (by rw [testNs]; exact List.mem_append_left _ hn)), evF_givens r hok.2 (fun n hn => ht n (by rw [testNs]; exact List.mem_append_right _ hn))]
end
theorem okF_of {f : Fm} (h : checkLook ds f = 0) (hk : okFs ds f.kids) : okF ds f := by
 unfold okF; rw [firstErr_eq, if_pos h]; exact hk
theorem look_of {f : Fm} (h3 : f.op ≠ 3) (h : formedS f = true) : checkLook ds f = 0 := by
 unfold checkLook; rw [if_neg (by simp [h]), if_pos h3]
theorem ok_kn (b : Bool) : okF ds (kn b) := by
 refine okF_of (look_of (by cases b <;> simp [kn, knOp, Fm.op]) ?_) (by simp [kn, Fm.kids, okFs, firstErrs])
 cases b <;> rfl
theorem ok_not {k : Fm} (h : okF ds k) : okF ds (notS k) := by
 unfold notS
 split
 ·exact ok_kn _
 ·refine okF_of (look_of (by simp [Fm.op]) rfl) ?_
  show okFs ds [k]
  rw [okFs_cons]; exact ⟨h, rfl⟩
theorem kept_mem {op : Int} {ks : List Fm} {k : Fm} (h : k ∈ keptS op ks) : k ∈ ks := by unfold keptS at h; exact (List.mem_filter.1 h).1
theorem ok_join {op : Int} (hop : op = 5 ∨ op = 6) {ks : List Fm} (h : ∀ k ∈ ks, okF ds k) : okF ds (joinS op ks) := by
 unfold joinS
 split
 ·rename_i k hk; exact h k (List.mem_of_find?_eq_some hk)
 ·split
  ·have : unitS op = knOp (decide (op ≠ 6)) := by unfold unitS knOp; rcases hop with rfl | rfl <;> simp
   rw [this]; exact ok_kn _
  ·rename_i k hk
   exact h k (kept_mem (op := op) (by rw [hk]; simp))
  ·rename_i h1 h2
   have hl : 2 ≤ (keptS op ks).length := by
    cases hkk : keptS op ks with
    | nil => exact absurd hkk h1
    | cons a r =>
     cases r with
     | nil => exact absurd hkk (h2 a)
     | cons b r => simp
   refine okF_of (look_of (by simp only [Fm.op]; omega) ?_) (okFs_all.2 fun k hk => h k (kept_mem hk))
   unfold formedS
   rcases hop with rfl | rfl <;> simp [Fm.name, Fm.cmp, Fm.num, Fm.op, Fm.kids, hl]
mutual
theorem ok_given : ∀ f, okF ds f → okF ds (givenS nm v f)
 | .mk op name cm nu kids, hok => by
  obtain ⟨hf, hks, _⟩ := okF_mk hok
  have hkl := ok_givens kids hks
  rw [givenS]
  split
  ·split
   ·exact ok_kn _
   ·exact hok
  ·split
   ·split
    ·rename_i k r hk
     exact ok_not (hkl k (by rw [hk]; simp))
    ·exact hok
   ·split
    ·rename_i h56
     exact ok_join h56 hkl
    ·exact hok
theorem ok_givens : ∀ l, okFs ds l → ∀ k ∈ givenL nm v l, okF ds k
 | [], _, _, h => absurd h (by simp [givenL])
 | a :: r, hok, k, h => by
  rw [okFs_cons] at hok
  rw [givenL] at h
  rcases List.mem_cons.1 h with rfl | h
  ·exact ok_given a hok.1
  ·exact ok_givens r hok.2 k h
end
theorem red_kn (b : Bool) : redF (kn b) := Or.inl (by cases b <;> simp [isC, kn, knOp, Fm.op])
theorem red_not {k : Fm} (h : redF k) : redF (notS k) := by
 unfold notS
 split
 ·exact red_kn _
 ·rename_i hc
  rcases h with h | h
  ·exact absurd h hc
  ·right; rw [noC]; simp [noCs, h]
theorem red_join {op : Int} (hop : op = 5 ∨ op = 6) {ks : List Fm} (h : ∀ k ∈ ks, redF k) : redF (joinS op ks) := by
 unfold joinS
 split
 ·rename_i k hk; exact h k (List.mem_of_find?_eq_some hk)
 ·rename_i hz
  have hz' := List.find?_eq_none.1 hz
  have hno : ∀ k ∈ keptS op ks, noC k = true := fun k hk => by
   have hm := kept_mem hk
   rcases h k hm with hc | hc
   ·exfalso
    have h1 := hz' k hm
    unfold keptS at hk
    have h2 := (List.mem_filter.1 hk).2
    simp only [beq_iff_eq, bne_iff_ne, ne_eq] at h1 h2
    unfold zeroS at h1
    unfold unitS at h2
    unfold isC at hc
    rcases hop with rfl | rfl
    ·simp at h1 h2; omega
    ·simp at h1 h2; omega
   ·exact hc
  split
  ·exact Or.inl (by unfold isC unitS Fm.op; rcases hop with rfl | rfl <;> simp)
  ·rename_i k hk
   exact Or.inr (hno k (by rw [hk]; simp))
  ·rename_i h1 h2
   right
   rw [noC, if_neg (by omega)]
   simp only [Bool.and_eq_true, decide_eq_true_eq, Bool.or_eq_true, noCs_all]
   exact ⟨⟨by omega, h1⟩, hno⟩
mutual
theorem red_given : ∀ f, okF ds f → redF (givenS nm v f)
 | .mk op name cm nu kids, hok => by
  obtain ⟨hf, hks, _⟩ := okF_mk hok
  have hkl := red_givens kids hks
  rw [givenS]
  split
  ·rename_i h3
   split
   ·exact red_kn _
   ·right; rw [noC, if_pos h3]
  ·rename_i h3
   split
   ·rename_i h4
    rcases formed_parts hf with ⟨h, _⟩ | ⟨_, h⟩
    ·exact absurd h h3
    ·simp only [Fm.op, Fm.kids] at h
     match kids, hkl with
     | [k], hkl => rw [givenL]; exact red_not (hkl _ (by simp [givenL]))
     | [], _ => simp at h; omega
     | a :: b :: r, _ => simp at h; omega
   ·rename_i h4
    split
    ·rename_i h56
     exact red_join h56 hkl
    ·rename_i h56
     rcases formed_parts hf with ⟨h, _⟩ | ⟨_, h⟩
     ·exact absurd h h3
     ·simp only [Fm.op, Fm.kids] at h
      exact Or.inl (by unfold isC Fm.op; simp only; omega)
theorem red_givens : ∀ l, okFs ds l → ∀ k ∈ givenL nm v l, redF k
 | [], _, _, h => absurd h (by simp [givenL])
 | a :: r, hok, k, h => by
  rw [okFs_cons] at hok
  rw [givenL] at h
  rcases List.mem_cons.1 h with rfl | h
  ·exact red_given a hok.1
  ·exact red_givens r hok.2 k h
end
theorem names_not {k : Fm} {n : ByteArray} (h : n ∈ namesF (notS k)) : n ∈ namesF k := by
 unfold notS at h
 split at h
 ·unfold kn knOp at h; rw [namesF] at h; split at h <;> simp [namesFs] at h
 ·rw [namesF] at h; simpa [namesFs] using h
theorem names_join {op : Int} (hop : op = 5 ∨ op = 6) {ks : List Fm} {n : ByteArray} (h : n ∈ namesF (joinS op ks)) : ∃ k ∈ ks, n ∈ namesF k := by
 unfold joinS at h
 split at h
 ·rename_i k hk; exact ⟨k, List.mem_of_find?_eq_some hk, h⟩
 ·split at h
  ·rw [namesF, if_neg (by unfold unitS; split <;> omega)] at h; simp [namesFs] at h
  ·rename_i k hk
   exact ⟨k, kept_mem (op := op) (by rw [hk]; simp), h⟩
  ·rw [namesF, if_neg (by omega)] at h
   simp only [List.nil_append] at h
   obtain ⟨k, hk, hn⟩ := namesFs_mem.1 h
   exact ⟨k, kept_mem hk, hn⟩
mutual
theorem names_given : ∀ f, okF ds f → ∀ n ∈ namesF (givenS nm v f), n ∈ namesF f ∧ n ≠ nm
 | .mk op name cm nu kids, hok, n, h => by
  obtain ⟨hf, hks, _⟩ := okF_mk hok
  have hkl := names_givens kids hks
  rw [givenS] at h
  rw [namesF]
  split at h
  ·rename_i h3
   split at h
   ·unfold kn knOp at h; rw [namesF] at h; split at h <;> simp [namesFs] at h
   ·rename_i hn
    rcases formed_parts hf with ⟨_, hk, _⟩ | ⟨_, h'⟩
    ·simp only [Fm.kids] at hk
     rw [namesF, if_pos h3, hk] at h
     simp [namesFs] at h
     subst h
     exact ⟨by simp [h3], hn⟩
    ·simp only [Fm.op] at h'; omega
  ·rename_i h3
   rw [if_neg h3]
   simp only [List.nil_append]
   split at h
   ·split at h
    ·rename_i k r hk
     exact hkl n k (by rw [hk]; simp) (names_not h)
    ·rename_i hk
     rw [namesF, if_neg h3] at h
     have : kids = [] := by
      cases kids with
      | nil => rfl
      | cons a r => simp [givenL] at hk
     rw [this] at h; simp [namesFs] at h
   ·split at h
    ·rename_i h56
     obtain ⟨k, hk, hn⟩ := names_join h56 h
     exact hkl n k hk hn
    ·rename_i h4 h56
     rcases formed_parts hf with ⟨h', _⟩ | ⟨_, h'⟩
     ·exact absurd h' h3
     ·simp only [Fm.op, Fm.kids] at h'
      have hk : kids = [] := by
       rcases h' with h' | h' | h'
       ·exact h'.2
       ·exact absurd h'.1 h4
       ·exact absurd h'.1 h56
      rw [namesF, if_neg h3, hk] at h; simp [namesFs] at h
theorem names_givens : ∀ l, okFs ds l → ∀ n, ∀ k ∈ givenL nm v l, n ∈ namesF k → n ∈ namesFs l ∧ n ≠ nm
 | [], _, _, _, h, _ => absurd h (by simp [givenL])
 | a :: r, hok, n, k, h, hn => by
  rw [okFs_cons] at hok
  rw [givenL] at h
  rw [namesFs]
  rcases List.mem_cons.1 h with rfl | h
  ·have := names_given a hok.1 n hn
   exact ⟨List.mem_append_left _ this.1, this.2⟩
  ·have := names_givens r hok.2 n k h hn
   exact ⟨List.mem_append_right _ this.1, this.2⟩
end
theorem size_kn (b : Bool) : fsize (kn b) = 1 := by unfold kn; rw [fsize]; rfl
theorem size_not (k : Fm) : fsize (notS k) ≤ 1 + fsize k := by
 unfold notS
 split
 ·rw [size_kn]; omega
 ·rw [fsize]; simp [fsizes]
theorem sizes_mem {l : List Fm} {k : Fm} (h : k ∈ l) : fsize k ≤ fsizes l := by
 induction l with
 | nil => simp at h
 | cons a r ih =>
  rw [fsizes]
  rcases List.mem_cons.1 h with rfl | h
  ·omega
  ·have := ih h; omega
theorem sizes_kept (op : Int) (l : List Fm) : fsizes (keptS op l) ≤ fsizes l := by
 unfold keptS
 induction l with
 | nil => simp
 | cons a r ih =>
  rw [List.filter_cons]
  split
  ·rw [fsizes, fsizes]; omega
  ·rw [fsizes]; omega
theorem size_join (op : Int) (ks : List Fm) : fsize (joinS op ks) ≤ 1 + fsizes ks := by
 unfold joinS
 split
 ·rename_i k hk; have := sizes_mem (List.mem_of_find?_eq_some hk); omega
 ·have hk := sizes_kept op ks
  split
  ·rw [fsize]; simp [fsizes]
  ·rename_i k h; rw [h] at hk; simp [fsizes] at hk; omega
  ·rw [fsize]; omega
mutual
theorem size_given : ∀ f, fsize (givenS nm v f) ≤ fsize f
 | .mk op name cm nu kids => by
  have hkl := sizes_given kids
  have h1 := fsize_pos (.mk op name cm nu kids)
  rw [givenS]
  split
  ·split
   ·rw [size_kn]; omega
   ·exact Nat.le_refl _
  ·split
   ·split
    ·rename_i k r hk
     rw [hk, fsizes] at hkl
     have := size_not k
     rw [fsize]; omega
    ·exact Nat.le_refl _
   ·split
    ·have := size_join op (givenL nm v kids)
     rw [fsize]; omega
    ·exact Nat.le_refl _
theorem sizes_given : ∀ l, fsizes (givenL nm v l) ≤ fsizes l
 | [] => by simp [givenL]
 | a :: r => by
  rw [givenL, fsizes, fsizes]
  have := size_given a
  have := sizes_given r
  omega
end
end given
mutual
theorem noC_names : ∀ f, noC f = true → namesF f ≠ []
 | .mk op name cm nu kids, h => by
  rw [noC] at h
  rw [namesF]
  split at h
  ·rename_i h3; simp [h3]
  ·simp only [Bool.and_eq_true, decide_eq_true_eq] at h
   have := noCs_names kids h.2 h.1.2
   simp [this]
theorem noCs_names : ∀ l, noCs l = true → l ≠ [] → namesFs l ≠ []
 | [], _, h => absurd rfl h
 | k :: r, h, _ => by
  rw [noCs, Bool.and_eq_true] at h
  rw [namesFs]
  have := noC_names k h.1
  simp [this]
end
mutual
theorem ok_plain {ds : List FactD} : ∀ f, okF ds f → plainF f = true
 | .mk op nm cm nu kids, h => by
  obtain ⟨hf, hks, _⟩ := okF_mk h
  have hk := oks_plain kids hks
  rw [plainF]
  rcases formed_parts hf with ⟨h3, _, _, _, hn⟩ | ⟨hn, h'⟩
  ·simp only [Fm.op, Fm.name] at h3 hn
   simp [h3, hn, hk]
  ·simp only [Fm.op, Fm.name, Fm.kids] at h' hn
   have h3 : op ≠ 3 := by omega
   simp [h3, hn, hk]; omega
theorem oks_plain {ds : List FactD} : ∀ l, okFs ds l → plainFs l = true
 | [], _ => rfl
 | k :: r, h => by
  rw [okFs_cons] at h
  rw [plainFs, ok_plain k h.1, oks_plain r h.2]; rfl
end
mutual
theorem ok_names {ds : List FactD} : ∀ f, okF ds f → ∀ n ∈ namesF f, 0 ≤ factIdx ds n
 | .mk op nm cm nu kids, h, n, hn => by
  obtain ⟨hf, hks, h3⟩ := okF_mk h
  rw [namesF] at hn
  rcases List.mem_append.1 hn with hn | hn
  ·split at hn
   ·rename_i e; simp at hn; subst hn; exact h3 e
   ·simp at hn
  ·exact oks_names kids hks n hn
theorem oks_names {ds : List FactD} : ∀ l, okFs ds l → ∀ n ∈ namesFs l, 0 ≤ factIdx ds n
 | [], _, _, hn => absurd hn (by simp [namesFs])
 | k :: r, h, n, hn => by
  rw [okFs_cons] at h
  rw [namesFs] at hn
  rcases List.mem_append.1 hn with hn | hn
  ·exact ok_names k h.1 n hn
  ·exact oks_names r h.2 n hn
end
end Go.Proofs.YtcigjmlileckhaaGreatDoor
/- Walk of formula.Holds. -/
namespace Go.Proofs.YtcigjmlileckhaaGreatDoor
open Go.RowKit
/-- What formula.Holds answers. -/
def holdsS (ds : List FactD) (c : List Int) (f : Fm) : Bool := fits ds c && checkS ds f == 0 && evF ds c f
theorem checkS_zero {ds : List FactD} {f : Fm} (h : checkS ds f = 0) : isLarge f = false ∧ firstErr (checkLook ds) f = 0 := by
 unfold checkS at h
 cases hl : isLarge f
 ·rw [hl] at h; exact ⟨rfl, by simpa using h⟩
 ·rw [hl] at h; simp at h
theorem fits_len {ds : List FactD} {c : List Int} (h : fits ds c = true) : c.length = ds.length := by
 unfold fits at h; simp only [Bool.and_eq_true, decide_eq_true_eq] at h; exact h.1.2
set_option maxRecDepth 100000 in
set_option maxHeartbeats 2000000 in
theorem holds_any (Z : Zone) (v vc : Value) (ds : List FactD) (c : List Int) (f : Fm) (cs : List Value) (w : World) (hf : FmR Z w f cs) (hd : Facts Z w v ds) (hc : Ints Z w vc c) (hsz : fsize f ≤ 4000000000000000000) (hz : ∀ b, Z b → b < w.heap.size) :
  Calls Tryz.prog 18 #[.agg cs.toArray, .agg #[v], vc] w fun e w' => e = .returned (.bool (holdsS ds c f)) ∧ Below w.heap.size w w' := by
 obtain ⟨A, cap, rfl⟩ := FmR.form hf
 have hdF := hd
 have hcF := hc
 obtain ⟨⟨D, dcap, rfl, -, -, -, -⟩, -⟩ := hd
 obtain ⟨⟨C, ccap, rfl, -, -, -, -⟩, -⟩ := hc
 have eg := Tryz.egHolds1
 have hzs : ∀ W, w.heap.size ≤ W → ∀ b, Z b → b < W := fun W h b hb => Nat.lt_of_lt_of_le (hz b hb) h
 have HFi := hid (fun W (h : Below w.heap.size w W) => factFits_any Z _ _ ds c W (hdF.keep (.of_below h)) (hcF.keep (.of_below h)))
 have HCh := hid (fun W (h : Below w.heap.size w W) => check_any Z _ ds f _ W (FmR.keep (.of_below h) _ _ hf) (hdF.keep (.of_below h)) hsz (hzs _ h.size))
 have HE := hid (show holdsS ds c f = (fits ds c && checkS ds f == 0 && evF ds c f) from rfl)
 let W0 := ((w.alloc (.cells #[.int .i64 f.op, .string f.name, .int .i64 f.cmp, .int .i64 f.num, .slice A f.kids.length cap] 24)).alloc (.cells #[.slice D ds.length dcap] 27)).alloc (.cells #[.slice C c.length ccap] 29)
 have hW0 : Below w.heap.size w W0 := (((Below.refl _ _).alloc (Nat.le_refl _) _).alloc (by simp) _).alloc (by simp; omega) _
 have hWs : W0.heap.size = w.heap.size + 3 := by simp [W0]
 have hbox : ∀ W, Below W0.heap.size W0 W → (W.cell? ⟨w.heap.size, 0, none⟩ = some (.int .i64 f.op) ∧ W.cell? ⟨w.heap.size, 1, none⟩ = some (.string f.name) ∧ W.cell? ⟨w.heap.size, 2, none⟩ = some (.int .i64 f.cmp) ∧ W.cell? ⟨w.heap.size, 3, none⟩ = some (.int .i64 f.num) ∧ W.cell? ⟨w.heap.size, 4, none⟩ = some (.slice A f.kids.length cap)) ∧ One W (w.heap.size + 1) (.slice D ds.length dcap) ∧ One W (w.heap.size + 2) (.slice C c.length ccap) ∧ w.heap.size + 3 ≤ W.heap.size := by
  intro W hW
  have h1 : One W0 (w.heap.size + 1) (.slice D ds.length dcap) := .alloc (by
   have := One.new (w.alloc (.cells #[.int .i64 f.op, .string f.name, .int .i64 f.cmp, .int .i64 f.num, .slice A f.kids.length cap] 24)) (.slice D ds.length dcap) 27
   simp only [World.size_alloc] at this
   exact this) _
  have h2 : One W0 (w.heap.size + 2) (.slice C c.length ccap) := by
   have := One.new ((w.alloc (.cells #[.int .i64 f.op, .string f.name, .int .i64 f.cmp, .int .i64 f.num, .slice A f.kids.length cap] 24)).alloc (.cells #[.slice D ds.length dcap] 27)) (.slice C c.length ccap) 29
   simp only [World.size_alloc] at this
   exact this
  refine ⟨five_cells (fun j u hu => ?_), h1.of_block (hW.block _ (by omega)), h2.of_block (hW.block _ (by omega)), by have := hW.size; omega⟩
  have hW1 : Below (w.heap.size + 1) (w.alloc (.cells #[.int .i64 f.op, .string f.name, .int .i64 f.cmp, .int .i64 f.num, .slice A f.kids.length cap] 24)) W0 := ((Below.refl _ _).alloc (by simp) _).alloc (by simp) _
  rw [hW.cell (by show w.heap.size < W0.heap.size; omega), hW1.cell (Nat.lt_succ_self _)]
  match j, hu with
  | 0, h => simpa using h
  | 1, h => simpa using h
  | 2, h => simpa using h
  | 3, h => simpa using h
  | 4, h => simpa using h
 have HB := hid hbox
 clear hbox
 have HH := hid (fun (hl : c.length = ds.length) (hok : firstErr (checkLook ds) f = 0) Bs W (h : Below w.heap.size w W) h1 h2 h3 => holds1_any Z (w.heap.size + 2) (w.heap.size + 1) Bs _ _ ds c hl (fsize f) f (Nat.le_refl _) _ W (FmR.keep (.of_below h) _ _ hf) (hdF.keep (.of_below h)) (hcF.keep (.of_below h)) h1 h2 h3 hok)
 clear hf hdF hcF
 go_enter Tryz.func18, Tryz.ntmps18
 go_wp2_with fail
 refine (HFi.out W0 hW0).mono ?_
 rintro e w1 ⟨rfl, hb1⟩
 dsimp only
 have hbw := below_thru hW0 hb1
 obtain ⟨⟨a0, a1, a2, a3, a4⟩, o1, o2, hs1⟩ := HB.out w1 hb1
 have o1c := o1.cell
 have o2c := o2.cell
 cases hfi : fits ds c
 ·have HK := hid (show holdsS ds c f = false by rw [HE.out, hfi]; rfl)
  go_wp2
  go_ret
  exact ⟨ret_bool HK.out.symm, hbw⟩
 ·have hlen := fits_len hfi
  go_wp2_with fail
  refine (HCh.out w1 hbw).mono ?_
  rintro e w2 ⟨rfl, hb2⟩
  dsimp only
  clear a0 a1 a2 a3 a4 o1 o2 hs1 o1c o2c
  have hbw2 := below_thru hbw hb2
  have hbb2 := below_thru hb1 hb2
  obtain ⟨⟨a0, a1, a2, a3, a4⟩, o1, o2, hs1⟩ := HB.out w2 hbb2
  have o1c := o1.cell
  have o2c := o2.cell
  by_cases hck : checkS ds f = 0
  ·have hck' : ((checkS ds f) != (0 : Int)) = false := by simp [hck]
   have HHH := hid (HH.out hlen (checkS_zero hck).2)
   have HK := hid (show holdsS ds c f = evF ds c f by rw [HE.out, hfi, hck]; rfl)
   have HOO := hid (And.intro o1 o2)
   clear hck hbb2 o1 o2
   have hne1 : w.heap.size < w2.heap.size := by omega
   have hne2 : w.heap.size + 1 < w2.heap.size := by omega
   have hne3 : w.heap.size + 1 + 1 < w2.heap.size := by omega
   go_wp2_with fail
   refine (HHH.out w2.heap.size _ (hbw2.alloc hbw2.size _) (HOO.out.1.alloc _) (HOO.out.2.alloc _) (One.new _ _ _)).mono ?_
   rintro e w3 ⟨rfl, hb3⟩
   go_wp2
   go_ret
   exact ⟨ret_bool HK.out.symm, below_thru hbw2 (below_thru (below1 _ _) hb3)⟩
  ·have hck' : ((checkS ds f) != (0 : Int)) = true := by simp [hck]
   have HK := hid (show holdsS ds c f = false by rw [HE.out, hfi]; simp [hck])
   clear hck
   go_wp2
   go_ret
   exact ⟨ret_bool HK.out.symm, hbw2⟩
end Go.Proofs.YtcigjmlileckhaaGreatDoor
/- Plain: the diagram of a formula. No program in sight. -/
namespace Go.Proofs.YtcigjmlileckhaaGreatDoor
open Go.RowKit
structure GSt where
 all : List NodeD
 done : List (List UInt8 × Int)
 full : Bool
def startsS (f : Fm) (x : FactD) : List Int := x.lo :: ascOf (((testN x.name f).flatMap fun n => [n, n + 1]).filter fun n => decide (x.lo < n) && decide (n ≤ x.hi))
def leafG (b full : Bool) (st : GSt) : Int × GSt := ((nodeS st.all ⟨b, 0, [], []⟩).1, ⟨(nodeS st.all ⟨b, 0, [], []⟩).2, st.done, full⟩)
def growS : List FactD → Nat → Fm → GSt → Int × GSt
 | [], _, f, st => if f.op = 1 ∨ f.op = 2 then leafG (decide (f.op = 1)) st.full st else leafG false (st.full || decide (4000 < st.all.length)) st
 | x :: rest, i, f, st =>
  if f.op = 1 ∨ f.op = 2 then leafG (decide (f.op = 1)) st.full st
  else if (st.full || decide (4000 < st.all.length)) = true then leafG false true st
  else match kvI st.done (keyT i f) with
   | some k => (k, st)
   | none =>
    let r := kidsA (fun v st => growS rest (i + 1) (givenS x.name v f) st) (startsS f x) st
    let o := innerS r.2.all i (startsS f x) r.1
    (o.1, ⟨o.2, kvISet r.2.done (keyT i f) o.1, r.2.full⟩)
theorem leafG_pre (b full : Bool) (st : GSt) : ∃ t, (leafG b full st).2.all = st.all ++ t := node_pre _ _
theorem kidsG_pre {f : Int → GSt → Int × GSt} (h : ∀ v st, ∃ t, (f v st).2.all = st.all ++ t) : ∀ (l : List Int) (st : GSt), ∃ t, (kidsA f l st).2.all = st.all ++ t
 | [], st => ⟨[], by simp [kidsA]⟩
 | v :: l, st => pre_trans (h v st) (kidsG_pre h l _)
theorem grow_pre : ∀ (rest : List FactD) (i : Nat) (f : Fm) (st : GSt), ∃ t, (growS rest i f st).2.all = st.all ++ t
 | [], i, f, st => by
  unfold growS
  split <;> exact leafG_pre _ _ _
 | x :: rest, i, f, st => by
  unfold growS
  split
  ·exact leafG_pre _ _ _
  ·split
   ·exact leafG_pre _ _ _
   ·split
    ·exact ⟨[], by simp⟩
    ·exact pre_trans (kidsG_pre (fun v st => grow_pre rest _ _ st) _ st) (inner_pre _ _ _ _)
theorem kidsG_full {f : Int → GSt → Int × GSt} (h : ∀ v st, (f v st).2.full = false → st.full = false) : ∀ (l : List Int) (st : GSt), (kidsA f l st).2.full = false → st.full = false
 | [], _, h => h
 | v :: l, st, hh => h v st (kidsG_full h l _ hh)
theorem grow_full : ∀ (rest : List FactD) (i : Nat) (f : Fm) (st : GSt), (growS rest i f st).2.full = false → st.full = false
 | [], i, f, st, h => by
  unfold growS at h
  split at h
  ·exact h
  ·unfold leafG at h
   simp only [Bool.or_eq_false_iff] at h
   exact h.1
 | x :: rest, i, f, st, h => by
  unfold growS at h
  split at h
  ·exact h
  ·split at h
   ·unfold leafG at h; cases h
   ·rename_i hf
    simp only [Bool.or_eq_true, not_or, Bool.not_eq_true] at hf
    exact hf.1
theorem factIdx_lt {ds : List FactD} {nm : ByteArray} : factIdx ds nm < ds.length := by
 unfold factIdx
 rcases firstIdx_spec (nameIs ds nm) ds.length 0 with ⟨k, _, h, _, _, e⟩ | ⟨_, e⟩ <;> omega
theorem nameIs_atD {ds : List FactD} {nm : ByteArray} {i : Nat} (hi : i < ds.length) : nameIs ds nm i = decide ((ds.getD i noFact).name = nm) := by
 unfold nameIs; rw [List.getElem?_eq_getElem hi, List.getD_eq_getElem?_getD, List.getElem?_eq_getElem hi]; rfl
theorem factIdx_name {ds : List FactD} {nm : ByteArray} {i : Nat} (h : factIdx ds nm = i) : (ds.getD i noFact).name = nm := by
 unfold factIdx at h
 rcases firstIdx_spec (nameIs ds nm) ds.length 0 with ⟨k, _, hk, hp, _, e⟩ | ⟨_, e⟩
 ·have : k = i := by omega
  subst this
  rw [nameIs_atD (by omega)] at hp
  simpa using hp
 ·omega
theorem factIdx_self {ds : List FactD} (hd : validDom ds = true) {i : Nat} (hi : i < ds.length) : factIdx ds (ds.getD i noFact).name = i := by
 unfold factIdx
 refine firstIdx_hit (fun j _ hj => ?_) (Nat.zero_le _) (by omega) (by rw [nameIs_atD hi]; simp)
 rw [nameIs_atD (by omega)]
 simp only [decide_eq_false_iff_not]
 intro e
 unfold validDom at hd
 simp only [Bool.and_eq_true, decide_eq_true_eq] at hd
 have hn := hd.1.2
 unfold names at hn
 have h1 : (ds.map (·.name))[j]? = some (ds.getD j noFact).name := by
  rw [List.getElem?_map, List.getElem?_eq_getElem (by omega), List.getD_eq_getElem?_getD, List.getElem?_eq_getElem (by omega)]; rfl
 have h2 : (ds.map (·.name))[i]? = some (ds.getD i noFact).name := by
  rw [List.getElem?_map, List.getElem?_eq_getElem hi, List.getD_eq_getElem?_getD, List.getElem?_eq_getElem hi]; rfl
 have := (List.getElem?_inj (by simpa using (show j < ds.length by omega)) hn).1 (h1.trans (by rw [e, h2]))
 omega
section grow
variable {ds : List FactD}
/-- What the made node for a formula is. -/
structure ForF (ds : List FactD) (all : List NodeD) (i : Nat) (f : Fm) (r : Int) : Prop where
 rng : Rng all r
 says : ∀ c, Fit ds c → S ds all r c = evF ds c f
 low : (nAt all r).kids ≠ [] → (i : Int) ≤ (nAt all r).fact
theorem ForF.app {all all' : List NodeD} {i : Nat} {f : Fm} {r : Int} (h : ForF ds all i f r) (hg : Good ds all) (hg' : Good ds all') (hp : ∃ t, all' = all ++ t) : ForF ds all' i f r := by
 obtain ⟨t, rfl⟩ := hp
 exact ⟨h.rng.app t, fun c hc => by rw [S_app' hg hg' h.rng]; exact h.says c hc, by rw [nAt_app h.rng]; exact h.low⟩
structure GInv (ds : List FactD) (st : GSt) : Prop where
 good : Good ds st.all
 done : ∀ p ∈ st.done, ∃ i f, p.1 = keyT i f ∧ plainF f = true ∧ ForF ds st.all i f p.2
theorem leafG_spec {st : GSt} (h : GInv ds st) (b full : Bool) {i : Nat} {f : Fm} (hf : ∀ c, evF ds c f = b) : GInv ds (leafG b full st).2 ∧ ForF ds (leafG b full st).2.all i f (leafG b full st).1 := by
 obtain ⟨M, hat⟩ := node_made h.good (n := ⟨b, 0, [], []⟩) (Or.inl ⟨rfl, rfl, rfl⟩)
 refine ⟨⟨M.good, fun p hp => ?_⟩, M.rng, fun c _ => ?_, fun hk => absurd (by rw [show (leafG b full st).2.all = (nodeS st.all ⟨b, 0, [], []⟩).2 from rfl, show (leafG b full st).1 = (nodeS st.all ⟨b, 0, [], []⟩).1 from rfl, hat]) hk⟩
 ·obtain ⟨i, f, e, hp', F⟩ := h.done p hp
  exact ⟨i, f, e, hp', F.app h.good M.good M.pre⟩
 ·show S ds (nodeS st.all ⟨b, 0, [], []⟩).2 (nodeS st.all ⟨b, 0, [], []⟩).1 c = _
  rw [M.good.S_leaf (by rw [hat]), hat, hf c]
theorem start_getD {rest : List Int} {lo v : Int} : (lo :: rest).getD (nx rest v) 0 = startAt lo rest (nx rest v) := by
 unfold startAt
 split
 ·rename_i h0; rw [h0]; rfl
 ·rename_i h0
  obtain ⟨q, hq⟩ : ∃ q, nx rest v = q + 1 := ⟨nx rest v - 1, by omega⟩
  rw [hq]; simp
theorem starts_asc (f : Fm) (x : FactD) : ascFrom x.lo x.hi (ascOf (((testN x.name f).flatMap fun n => [n, n + 1]).filter fun n => decide (x.lo < n) && decide (n ≤ x.hi))) :=
 ascOf_asc fun v hv => by
  have := (List.mem_filter.1 hv).2
  simpa using this
theorem starts_side {f : Fm} {x : FactD} {v y : Int} (h0 : x.lo ≤ v) (h1 : v ≤ x.hi) (hy : y = startAt x.lo (ascOf (((testN x.name f).flatMap fun n => [n, n + 1]).filter fun n => decide (x.lo < n) && decide (n ≤ x.hi))) (nx (ascOf (((testN x.name f).flatMap fun n => [n, n + 1]).filter fun n => decide (x.lo < n) && decide (n ≤ x.hi))) v)) :
  ∀ n ∈ testN x.name f, (y < n ↔ v < n) ∧ (y < n + 1 ↔ v < n + 1) := by
 have ha := starts_asc f x
 have hle := nx_start_le ha h0
 have hgap := fun z hz => nx_start_gap (v := v) (x := z) ha hz
 have hlo : x.lo ≤ y := by
  rw [hy]
  exact (start_rng ha (by omega) (nx_le _ _)).1
 rw [← hy] at hle hgap
 have key : ∀ m, (∃ n ∈ testN x.name f, m = n ∨ m = n + 1) → (y < m ↔ v < m) := fun m hm => by
  by_cases hr : x.lo < m ∧ m ≤ x.hi
  ·have hmem : m ∈ ascOf (((testN x.name f).flatMap fun n => [n, n + 1]).filter fun n => decide (x.lo < n) && decide (n ≤ x.hi)) := by
    rw [ascOf_mem, List.mem_filter, List.mem_flatMap]
    obtain ⟨n, hn, e⟩ := hm
    exact ⟨⟨n, hn, by rcases e with rfl | rfl <;> simp⟩, by simp [hr]⟩
   exact ⟨fun h => hgap m hmem h, fun h => by omega⟩
  ·omega
 exact fun n hn => ⟨key n ⟨n, hn, Or.inl rfl⟩, key (n + 1) ⟨n, hn, Or.inr rfl⟩⟩
theorem grow_spec (hd : validDom ds = true) : ∀ (rest : List FactD) (i : Nat) (f : Fm) (st : GSt), rest = ds.drop i → i ≤ ds.length → okF ds f → redF f → (∀ n ∈ namesF f, (i : Int) ≤ factIdx ds n) → GInv ds st →
  (growS rest i f st).2.full = false → GInv ds (growS rest i f st).2 ∧ ForF ds (growS rest i f st).2.all i f (growS rest i f st).1
 | [], i, f, st, hr, hi, hok, hred, hnm, hst, hfull => by
  unfold growS at hfull ⊢
  by_cases hc : f.op = 1 ∨ f.op = 2
  ·rw [if_pos hc]
   refine leafG_spec hst _ _ fun c => ?_
   rcases hc with h | h
   ·rw [evF_one h, h]; rfl
   ·rw [evF_two h, h]; rfl
  ·exfalso
   rcases hred with h | h
   ·exact hc h
   ·have hne := noC_names f h
    cases hn : namesF f with
    | nil => exact hne hn
    | cons n r =>
     have h1 := hnm n (by rw [hn]; simp)
     have h2 := factIdx_lt (ds := ds) (nm := n)
     have h3 : ds.length ≤ i := by
      have := congrArg List.length hr
      simp at this; omega
     omega
 | x :: rest, i, f, st, hr, hi, hok, hred, hnm, hst, hfull => by
  have hlt : i < ds.length := by
   have := congrArg List.length hr
   simp at this; omega
  have hx : ds.getD i noFact = x := by
   have := congrArg (fun l => l.getD 0 noFact) hr
   simp [List.getD_eq_getElem?_getD] at this
   rw [List.getD_eq_getElem?_getD]
   exact this.symm
  have hrest : rest = ds.drop (i + 1) := by
   have := congrArg List.tail hr
   simpa using this
  unfold growS at hfull ⊢
  by_cases hc : f.op = 1 ∨ f.op = 2
  ·rw [if_pos hc]
   refine leafG_spec hst _ _ fun c => ?_
   rcases hc with h | h
   ·rw [evF_one h, h]; rfl
   ·rw [evF_two h, h]; rfl
  ·rw [if_neg hc] at hfull ⊢
   by_cases hfl : (st.full || decide (4000 < st.all.length)) = true
   ·rw [if_pos hfl] at hfull; cases hfull
   ·rw [if_neg hfl] at hfull ⊢
    cases hkv : kvI st.done (keyT i f) with
    | some k =>
     simp only
     obtain ⟨i', f', e, hp, F⟩ := hst.done _ (kvI_mem hkv)
     simp only at e F
     obtain ⟨rfl, rfl⟩ := keyT_inj (ok_plain f hok) hp e
     exact ⟨hst, F⟩
    | none =>
     simp only [hkv] at hfull ⊢
     have hkid : ∀ (l : List Int) (st : GSt), GInv ds st → (kidsA (fun v st => growS rest (i + 1) (givenS x.name v f) st) l st).2.full = false →
       GInv ds (kidsA (fun v st => growS rest (i + 1) (givenS x.name v f) st) l st).2 ∧
       ∀ j, j < l.length → ForF ds (kidsA (fun v st => growS rest (i + 1) (givenS x.name v f) st) l st).2.all (i + 1) (givenS x.name (l.getD j 0) f) ((kidsA (fun v st => growS rest (i + 1) (givenS x.name v f) st) l st).1.getD j 0) := by
      intro l
      induction l with
      | nil => intro st hst _; exact ⟨hst, fun j hj => absurd hj (by simp)⟩
      | cons v l ih =>
       intro st hst hfl
       have hf1 := kidsG_full (f := fun v st => growS rest (i + 1) (givenS x.name v f) st) (fun v st h => grow_full rest _ _ st h) l _ hfl
       have hp1 := kidsG_pre (f := fun v st => growS rest (i + 1) (givenS x.name v f) st) (fun v st => grow_pre rest _ _ st) l (growS rest (i + 1) (givenS x.name v f) st).2
       obtain ⟨A1, F1⟩ := grow_spec hd rest (i + 1) (givenS x.name v f) st hrest (by omega) (ok_given f hok) (red_given f hok) (fun n hn => by
        obtain ⟨hm, hne⟩ := names_given f hok n hn
        have h1 := hnm n hm
        by_cases e : factIdx ds n = i
        ·exact absurd (by rw [← factIdx_name e, hx]) hne
        ·omega) hst hf1
       obtain ⟨A2, F2⟩ := ih _ A1 hfl
       refine ⟨A2, fun j hj => ?_⟩
       cases j with
       | zero => exact F1.app A1.good A2.good hp1
       | succ j => exact F2 j (by simpa using hj)
     obtain ⟨A1, F1⟩ := hkid (startsS f x) st hst hfull
     have hlk := kidsA_length (f := fun v st => growS rest (i + 1) (givenS x.name v f) st) (startsS f x) st
     have hside := fun v y h0 h1 hy => starts_side (f := f) (x := x) (v := v) (y := y) h0 h1 hy
     have hasc := starts_asc f x
     unfold startsS at A1 F1 hlk ⊢
     generalize ascOf (((testN x.name f).flatMap fun n => [n, n + 1]).filter fun n => decide (x.lo < n) && decide (n ≤ x.hi)) = rs at *
     generalize kidsA (fun v st => growS rest (i + 1) (givenS x.name v f) st) (x.lo :: rs) st = r at *
     obtain ⟨kids, st'⟩ := r
     simp only at A1 F1 hlk ⊢
     cases kids with
     | nil => simp at hlk
     | cons k0 ks =>
      have hlk' : rs.length = ks.length := by simpa using hlk.symm
      have hF1 : ∀ q ∈ k0 :: ks, ∃ j, j < (x.lo :: rs).length ∧ q = (k0 :: ks).getD j 0 := fun q hq => by
       obtain ⟨j, hj, rfl⟩ := List.getElem_of_mem hq
       exact ⟨j, by simp only [List.length_cons] at hj ⊢; omega, by rw [List.getD_eq_getElem?_getD, List.getElem?_eq_getElem hj]; rfl⟩
      have hI := inner_made A1.good hlt hlk' (by rw [hx]; exact hasc) (fun q hq => by obtain ⟨j, hj, rfl⟩ := hF1 q hq; exact (F1 j hj).rng) (fun q hq hqk => by
       obtain ⟨j, hj, rfl⟩ := hF1 q hq
       have := (F1 j hj).low hqk
       omega)
      rw [hx] at hI
      obtain ⟨M, hS, hlow⟩ := hI
      generalize innerS st'.all i (x.lo :: rs) (k0 :: ks) = o at *
      have hF : ForF ds o.2 i f o.1 := by
       refine ⟨M.rng, fun c hc => ?_, hlow⟩
       rw [hS c]
       have hle := nx_le rs (c.getD i 0)
       rw [(F1 (nx rs (c.getD i 0)) (by simp only [List.length_cons]; omega)).says c hc]
       have hfit := hc.2 i hlt
       rw [hx] at hfit
       have hself := factIdx_self hd hlt
       rw [hx] at hself
       refine evF_given f hok fun n hn => ?_
       rw [hself, Int.toNat_natCast]
       exact hside (c.getD i 0) _ hfit.1 hfit.2 start_getD n hn
      refine ⟨⟨M.good, fun p hp => ?_⟩, hF⟩
      rcases kvISet_mem hp with hp | hp
      ·obtain ⟨i', f', e, hpl, F⟩ := A1.done p hp
       exact ⟨i', f', e, hpl, F.app A1.good M.good M.pre⟩
      ·subst hp
       exact ⟨i, f, rfl, ok_plain f hok, hF⟩
end grow
/-- The number of different facts that are tested. -/
def seenS (l : List ByteArray) : List ByteArray := l.foldl (fun ks n => if ks.any (fun k => decide (k = n)) = true then ks else ks ++ [n]) []
def testedS (f : Fm) : Nat := (seenS (namesF f)).length
def buildS (ds : List FactD) (f : Fm) : List NodeD × Int :=
 if validDom ds = false ∨ checkS ds f ≠ 0 then ([], 1)
 else if 24 < testedS f then ([], 2)
 else
  let r := growS ds 0 (givenS ⟨#[]⟩ 0 f) ⟨[], [], false⟩
  if r.2.full = true then ([], 2)
  else if 4000 < (canonS ds r.2.all r.1).length then ([], 2)
  else (canonS ds r.2.all r.1, 0)
theorem build_ok {ds : List FactD} {f : Fm} {g : List NodeD} (h : buildS ds f = (g, 0)) :
  IsValid ds g ∧ (∀ c, Fit ds c → S ds g 0 c = evF ds c f) := by
 unfold buildS at h
 split at h
 ·injection h with _ h; exact absurd h (by decide)
 ·rename_i hv
  simp only [not_or, Bool.not_eq_false, ne_eq, Decidable.not_not] at hv
  obtain ⟨hd, hck⟩ := hv
  have hok : okF ds f := (checkS_zero hck).2
  split at h
  ·injection h with _ h; exact absurd h (by decide)
  ·simp only at h
   split at h
   ·injection h with _ h; exact absurd h (by decide)
   ·rename_i hfull
    split at h
    ·injection h with _ h; exact absurd h (by decide)
    ·rename_i hlen
     injection h with h _
     have hst : GInv ds ⟨[], [], false⟩ := ⟨Good.nil ds, fun p hp => absurd hp (by simp)⟩
     obtain ⟨A, F⟩ := grow_spec hd ds 0 (givenS ⟨#[]⟩ 0 f) ⟨[], [], false⟩ (by simp) (Nat.zero_le _) (ok_given f hok) (red_given f hok) (fun n hn => ok_names _ (ok_given f hok) n hn) hst (by simpa using hfull)
     subst h
     refine ⟨canon_valid hd A.good F.rng (by omega), fun c hc => ?_⟩
     rw [canon_S A.good F.rng, F.says c hc]
     refine evF_given f hok fun n hn => ?_
     exfalso
     have : ∀ f : Fm, okF ds f → testN ⟨#[]⟩ f = [] := by
      intro f
      induction hs : fsize f using Nat.strongRecOn generalizing f with
      | _ m ih =>
       intro hok
       obtain ⟨op, nm, cm, nu, kids⟩ := f
       obtain ⟨hf, hks, _⟩ := okF_mk hok
       rw [testN]
       have h0 : ¬ (op = 3 ∧ nm = ⟨#[]⟩) := fun ⟨h3, e⟩ => by
        rcases formed_parts hf with ⟨_, _, _, _, hn⟩ | ⟨_, h⟩
        ·simp only [Fm.name] at hn; rw [e] at hn; simp [isName] at hn
        ·simp only [Fm.op] at h; omega
       rw [if_neg h0, List.nil_append]
       have : ∀ l : List Fm, (∀ k ∈ l, fsize k < m) → okFs ds l → testNs ⟨#[]⟩ l = [] := by
        intro l
        induction l with
        | nil => intro _ _; rfl
        | cons k r ih2 =>
         intro hl hok
         rw [okFs_cons] at hok
         rw [testNs, ih (fsize k) (hl k (by simp)) k rfl hok.1, ih2 (fun k hk => hl k (by simp [hk])) hok.2]; rfl
       refine this kids (fun k hk => ?_) hks
       have h1 := sizes_mem hk
       rw [fsize] at hs; omega
     rw [this f hok] at hn
     simp at hn
theorem build_err {ds : List FactD} {f : Fm} (h : (buildS ds f).2 ≠ 0) : (buildS ds f).1 = [] ∧ ((buildS ds f).2 = 2 ∨ ((buildS ds f).2 = 1 ∧ (validDom ds = false ∨ checkS ds f ≠ 0))) := by
 unfold buildS at h ⊢
 split
 ·rename_i hv; exact ⟨rfl, Or.inr ⟨rfl, hv⟩⟩
 ·rename_i hv
  rw [if_neg hv] at h
  split
  ·exact ⟨rfl, Or.inl rfl⟩
  ·rename_i ht
   rw [if_neg ht] at h
   simp only at h ⊢
   split
   ·exact ⟨rfl, Or.inl rfl⟩
   ·rename_i hf
    rw [if_neg hf] at h
    split
    ·exact ⟨rfl, Or.inl rfl⟩
    ·rename_i hl
     rw [if_neg hl] at h
     exact absurd rfl h
end Go.Proofs.YtcigjmlileckhaaGreatDoor
/- Plain: the examples of the chapter, reckoned. No program in sight. -/
namespace Go.Proofs.YtcigjmlileckhaaGreatDoor
open Go.RowKit
def hWeight : ByteArray := ⟨#[119, 101, 105, 103, 104, 116]⟩
def hMilitary : ByteArray := ⟨#[109, 105, 108, 105, 116, 97, 114, 121]⟩
def hTax : ByteArray := ⟨#[116, 97, 120]⟩
def hDom : List FactD := [⟨hWeight, 2, 0, 150⟩, ⟨hMilitary, 1, 0, 1⟩]
def hTest (nm : ByteArray) (c n : Int) : Fm := .mk 3 nm c n []
def hAdult : Fm := .mk 5 ⟨#[]⟩ 0 0 [hTest hWeight 6 18, hTest hMilitary 1 1]
def hEither : Fm := .mk 6 ⟨#[]⟩ 0 0 [hTest hMilitary 1 1, hTest hMilitary 1 0]
def hWant : List NodeD := [⟨false, 0, [18], [1, 2]⟩, ⟨false, 0, [], []⟩, ⟨false, 1, [1], [1, 3]⟩, ⟨true, 0, [], []⟩]
theorem h_dom : validDom hDom = true := by decide +kernel
theorem h_valid : validS hDom hWant = true := by decide +kernel
theorem h_invalid : validS hDom [] = false := by decide +kernel
theorem h_least : leastS hDom hWant = some [18, 1] := by decide +kernel
theorem h_yes : holdsD hWant [20, 1] 4 0 = true := by decide +kernel
theorem h_no : holdsD hWant [20, 0] 4 0 = false := by decide +kernel
theorem h_tax : buildS hDom (hTest hTax 5 150) = ([], 1) := by decide +kernel
theorem h_b4 : buildS hDom (hTest hWeight 5 150) = ([⟨false, 0, [], []⟩], 0) := by decide +kernel
theorem h_b2 : buildS hDom (hTest hWeight 6 0) = ([⟨true, 0, [], []⟩], 0) := by decide +kernel
theorem h_b3 : buildS hDom hEither = ([⟨true, 0, [], []⟩], 0) := by decide +kernel
theorem h_b1 : buildS hDom hAdult = (hWant, 0) := by decide +kernel
end Go.Proofs.YtcigjmlileckhaaGreatDoor
