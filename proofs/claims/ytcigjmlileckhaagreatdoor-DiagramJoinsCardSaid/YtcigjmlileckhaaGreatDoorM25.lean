/- Walks of the statements' helpers: domain, test. -/
import Derived.Test.YtcigjmlileckhaaGreatDoorM15
import Derived.Test.YtcigjmlileckhaaGreatDoorM24
/- Walks of the statements' helpers: domain, test. -/
namespace Go.Proofs.YtcigjmlileckhaaGreatDoor
open Go.RowKit
set_option maxRecDepth 100000 in
set_option maxHeartbeats 4000000 in
theorem test_any (nm : ByteArray) (c n : Int) (w : World) : Calls Tryz.prog 35 #[.string nm, .int .i64 c, .int .i64 n] w fun e w' => e = .returned (.agg #[.int .i64 3, .string nm, .int .i64 c, .int .i64 n, .slice none 0 0]) ∧ Below w.heap.size w w' := by
 go_enter Tryz.func35, Tryz.ntmps35
 go_wp2
 have hb := Blk.new w 24 #[.int .i64 3, .string nm, .int .i64 c, .int .i64 n, .slice none 0 0]
 have r0 : (w.alloc (.cells #[.int .i64 3, .string nm, .int .i64 c, .int .i64 n, .slice none 0 0] 24)).cell? ⟨w.heap.size, 0, none⟩ = some (.int .i64 3) := hb.cell 0
 have r1 : (w.alloc (.cells #[.int .i64 3, .string nm, .int .i64 c, .int .i64 n, .slice none 0 0] 24)).cell? ⟨w.heap.size, 1, none⟩ = some (.string nm) := hb.cell 1
 have r2 : (w.alloc (.cells #[.int .i64 3, .string nm, .int .i64 c, .int .i64 n, .slice none 0 0] 24)).cell? ⟨w.heap.size, 2, none⟩ = some (.int .i64 c) := hb.cell 2
 have r3 : (w.alloc (.cells #[.int .i64 3, .string nm, .int .i64 c, .int .i64 n, .slice none 0 0] 24)).cell? ⟨w.heap.size, 3, none⟩ = some (.int .i64 n) := hb.cell 3
 have r4 : (w.alloc (.cells #[.int .i64 3, .string nm, .int .i64 c, .int .i64 n, .slice none 0 0] 24)).cell? ⟨w.heap.size, 4, none⟩ = some (.slice none 0 0) := hb.cell 4
 exact bodyPost_ret (v := .agg #[.int .i64 3, .string nm, .int .i64 c, .int .i64 n, .slice none 0 0]) (by simp [results, Tryz.results35, go_sem, r0, r1, r2, r3, r4]) rfl ⟨rfl, below1 _ _⟩
theorem I64.of {n : Int} (h1 : -9223372036854775808 ≤ n) (h2 : n ≤ 9223372036854775807) : I64 n := ⟨h1, h2⟩
set_option maxRecDepth 100000 in
set_option maxHeartbeats 4000000 in
theorem domain_any (w : World) : Calls Tryz.prog 34 #[] w fun e w' => ∃ v, e = .returned (.agg #[v]) ∧ Facts (fun b => b = w.heap.size + 1) w' v hDom ∧ w.heap.size + 1 < w'.heap.size ∧ Below w.heap.size w w' := by
 go_enter Tryz.func34, Tryz.ntmps34
 go_wp2
 have hr := (Blk.new w 27 #[.slice (some ⟨w.heap.size + 1, 0, none⟩) 2 2]).alloc (.cells #[.string hWeight, .int .i64 2, .int .i64 0, .int .i64 150, .string hMilitary, .int .i64 1, .int .i64 0, .int .i64 1] 82)
 have hf := Blk.new' (w.alloc (.cells #[.slice (some ⟨w.heap.size + 1, 0, none⟩) 2 2] 27)) 82 #[.string hWeight, .int .i64 2, .int .i64 0, .int .i64 150, .string hMilitary, .int .i64 1, .int .i64 0, .int .i64 1] (n := w.heap.size + 1) (by simp)
 have hb := (below1 w (.cells #[.slice (some ⟨w.heap.size + 1, 0, none⟩) 2 2] 27)).alloc (by simp) (.cells #[.string hWeight, .int .i64 2, .int .i64 0, .int .i64 150, .string hMilitary, .int .i64 1, .int .i64 0, .int .i64 1] 82)
 have hF : Facts (fun b => b = w.heap.size + 1) ((w.alloc (.cells #[.slice (some ⟨w.heap.size + 1, 0, none⟩) 2 2] 27)).alloc (.cells #[.string hWeight, .int .i64 2, .int .i64 0, .int .i64 150, .string hMilitary, .int .i64 1, .int .i64 0, .int .i64 1] 82)) (.slice (some ⟨w.heap.size + 1, 0, none⟩) 2 2) hDom := by
  generalize ((w.alloc (.cells #[.slice (some ⟨w.heap.size + 1, 0, none⟩) 2 2] 27)).alloc (.cells #[.string hWeight, .int .i64 2, .int .i64 0, .int .i64 150, .string hMilitary, .int .i64 1, .int .i64 0, .int .i64 1] 82)) = W at *
  refine ⟨⟨_, 2, rfl, Nat.le_refl _, by omega, by simp [hDom], ?_⟩, fun x hx => ?_⟩
  ·refine ⟨w.heap.size + 1, 0, _, rfl, rfl, fun j u hu => ?_, rfl, ?_⟩
   ·have hj : j < 4 := by have := (List.getElem?_eq_some_iff.1 hu).1; simpa [FactD.cells] using this
    rw [Nat.zero_add, hf.cell, ← hu]
    have : j = 0 ∨ j = 1 ∨ j = 2 ∨ j = 3 := by omega
    rcases this with rfl | rfl | rfl | rfl <;> rfl
   ·refine ⟨w.heap.size + 1, 0 + 4, _, rfl, rfl, fun j u hu => ?_, rfl, trivial⟩
    have hj : j < 4 := by have := (List.getElem?_eq_some_iff.1 hu).1; simpa [FactD.cells] using this
    rw [Nat.zero_add, hf.cell, ← hu]
    have : j = 0 ∨ j = 1 ∨ j = 2 ∨ j = 3 := by omega
    rcases this with rfl | rfl | rfl | rfl <;> rfl
  ·have : x = ⟨hWeight, 2, 0, 150⟩ ∨ x = ⟨hMilitary, 1, 0, 1⟩ := by simpa [hDom] using hx
   rcases this with rfl | rfl
   ·exact ⟨by show (6 : Nat) ≤ _; omega, I64.of (by decide) (by decide), I64.of (by decide) (by decide), I64.of (by decide) (by decide)⟩
   ·exact ⟨by show (8 : Nat) ≤ _; omega, I64.of (by decide) (by decide), I64.of (by decide) (by decide), I64.of (by decide) (by decide)⟩
 have r0 := hr.cell 0
 exact bodyPost_ret (v := .agg #[.slice (some ⟨w.heap.size + 1, 0, none⟩) 2 2]) (by simp [results, Tryz.results34, go_sem]) rfl ⟨_, rfl, hF, hf.lt, hb⟩
/-- A leaf's cells as a formula. -/
theorem fm_leaf (Z : Zone) (W : World) {nm : ByteArray} {c n : Int} (h1 : nm.size ≤ 140737488355328) (h2 : I64 c) (h3 : I64 n) : FmR Z W (hTest nm c n) [.int .i64 3, .string nm, .int .i64 c, .int .i64 n, .slice none 0 0] :=
 ⟨I64.of (by decide) (by decide), h1, h2, h3, none, 0, rfl, by simp, by omega, by simp, trivial⟩
theorem fm_pair {W : World} {row : Nat} {n1 n2 : ByteArray} {op c1 k1 c2 k2 : Int} (hb : Blk W row 24 #[.int .i64 3, .string n1, .int .i64 c1, .int .i64 k1, .slice none 0 0, .int .i64 3, .string n2, .int .i64 c2, .int .i64 k2, .slice none 0 0])
  (ho : I64 op) (h1 : n1.size ≤ 140737488355328) (h2 : I64 c1) (h3 : I64 k1) (h4 : n2.size ≤ 140737488355328) (h5 : I64 c2) (h6 : I64 k2) :
  FmR (fun b => b = row) W (.mk op ⟨#[]⟩ 0 0 [hTest n1 c1 k1, hTest n2 c2 k2]) [.int .i64 op, .string ⟨#[]⟩, .int .i64 0, .int .i64 0, .slice (some ⟨row, 0, none⟩) 2 2] := by
 refine ⟨ho, by show (0 : Nat) ≤ _; omega, I64.of (by decide) (by decide), I64.of (by decide) (by decide), some ⟨row, 0, none⟩, 2, rfl, Nat.le_refl _, by omega, by simp, ?_⟩
 refine ⟨row, 0, _, rfl, rfl, fun j u hu => ?_, fm_leaf _ W h1 h2 h3, row, 0 + 5, _, rfl, rfl, fun j u hu => ?_, fm_leaf _ W h4 h5 h6, trivial⟩
 ·have hj : j < 5 := by have := (List.getElem?_eq_some_iff.1 hu).1; simpa using this
  rw [Nat.zero_add, hb.cell, ← hu]
  have : j = 0 ∨ j = 1 ∨ j = 2 ∨ j = 3 ∨ j = 4 := by omega
  rcases this with rfl | rfl | rfl | rfl | rfl <;> rfl
 ·have hj : j < 5 := by have := (List.getElem?_eq_some_iff.1 hu).1; simpa using this
  rw [Nat.zero_add, hb.cell, ← hu]
  have : j = 0 ∨ j = 1 ∨ j = 2 ∨ j = 3 ∨ j = 4 := by omega
  rcases this with rfl | rfl | rfl | rfl | rfl <;> rfl
theorem ints_rowA {W : World} {b : Nat} {t : TypeId} {xs : List Int} (hb : Blk W b t (xs.map (.int .i64)).toArray) (hf : ∀ x ∈ xs, I64 x) (hl : xs.length ≤ 100) : Ints (fun _ => True) W (.slice (some ⟨b, 0, none⟩) xs.length xs.length) xs :=
 ⟨⟨some ⟨b, 0, none⟩, xs.length, rfl, Nat.le_refl _, by omega, by omega, fun _ => ⟨b, 0, rfl, trivial, fun j u hu => by rw [Nat.zero_add, hb.cell]; simpa using hu⟩⟩, hf⟩
theorem one_make (W : World) (l : Bool) : Blk ((W.alloc (.cells #[.bool l, .int .i64 0, .slice none 0 0, .slice none 0 0] 55)).alloc (.cells #[.slice (some ⟨W.heap.size, 0, none⟩) 1 1] 34)) (W.heap.size + 1) 34 #[.slice (some ⟨W.heap.size, 0, none⟩) 1 1] ∧ Nodes (fun _ => True) ((W.alloc (.cells #[.bool l, .int .i64 0, .slice none 0 0, .slice none 0 0] 55)).alloc (.cells #[.slice (some ⟨W.heap.size, 0, none⟩) 1 1] 34)) (.slice (some ⟨W.heap.size, 0, none⟩) 1 1) [⟨l, 0, [], []⟩] ∧ Below W.heap.size W ((W.alloc (.cells #[.bool l, .int .i64 0, .slice none 0 0, .slice none 0 0] 55)).alloc (.cells #[.slice (some ⟨W.heap.size, 0, none⟩) 1 1] 34)) := by
 refine ⟨Blk.new' _ _ _ (by simp), ?_, (below1 _ _).alloc (by simp) _⟩
 have hb := (Blk.new W 55 #[.bool l, .int .i64 0, .slice none 0 0, .slice none 0 0]).alloc (.cells #[.slice (some ⟨W.heap.size, 0, none⟩) 1 1] 34)
 generalize ((W.alloc (.cells #[.bool l, .int .i64 0, .slice none 0 0, .slice none 0 0] 55)).alloc (.cells #[.slice (some ⟨W.heap.size, 0, none⟩) 1 1] 34)) = W1 at *
 refine ⟨some ⟨W.heap.size, 0, none⟩, 1, rfl, Nat.le_refl _, by omega, by simp, W.heap.size, 0, _, rfl, trivial, fun j u hu => ?_, ⟨_, _, rfl, I64.of (n := 0) (by decide) (by decide), Ints.nil _ _, Ints.nil _ _⟩, trivial⟩
 have hj : j < 4 := by have := (List.getElem?_eq_some_iff.1 hu).1; simpa using this
 rw [Nat.zero_add, hb.cell, ← hu]
 have : j = 0 ∨ j = 1 ∨ j = 2 ∨ j = 3 := by omega
 rcases this with rfl | rfl | rfl | rfl <;> rfl
set_option maxRecDepth 100000 in
theorem want_make (W : World) : Blk ((((((W.alloc (.cells #[.int .i64 18] 3)).alloc (.cells #[.int .i64 1, .int .i64 2] 3)).alloc (.cells #[.int .i64 1] 3)).alloc (.cells #[.int .i64 1, .int .i64 3] 3)).alloc (.cells #[.bool false, .int .i64 0, .slice (some ⟨W.heap.size, 0, none⟩) 1 1, .slice (some ⟨W.heap.size + 1, 0, none⟩) 2 2, .bool false, .int .i64 0, .slice none 0 0, .slice none 0 0, .bool false, .int .i64 1, .slice (some ⟨W.heap.size + 1 + 1, 0, none⟩) 1 1, .slice (some ⟨W.heap.size + 1 + 1 + 1, 0, none⟩) 2 2, .bool true, .int .i64 0, .slice none 0 0, .slice none 0 0] 55)).alloc (.cells #[.slice (some ⟨W.heap.size + 1 + 1 + 1 + 1, 0, none⟩) 4 4] 34)) (W.heap.size + 1 + 1 + 1 + 1 + 1) 34 #[.slice (some ⟨W.heap.size + 1 + 1 + 1 + 1, 0, none⟩) 4 4] ∧ Nodes (fun _ => True) ((((((W.alloc (.cells #[.int .i64 18] 3)).alloc (.cells #[.int .i64 1, .int .i64 2] 3)).alloc (.cells #[.int .i64 1] 3)).alloc (.cells #[.int .i64 1, .int .i64 3] 3)).alloc (.cells #[.bool false, .int .i64 0, .slice (some ⟨W.heap.size, 0, none⟩) 1 1, .slice (some ⟨W.heap.size + 1, 0, none⟩) 2 2, .bool false, .int .i64 0, .slice none 0 0, .slice none 0 0, .bool false, .int .i64 1, .slice (some ⟨W.heap.size + 1 + 1, 0, none⟩) 1 1, .slice (some ⟨W.heap.size + 1 + 1 + 1, 0, none⟩) 2 2, .bool true, .int .i64 0, .slice none 0 0, .slice none 0 0] 55)).alloc (.cells #[.slice (some ⟨W.heap.size + 1 + 1 + 1 + 1, 0, none⟩) 4 4] 34)) (.slice (some ⟨W.heap.size + 1 + 1 + 1 + 1, 0, none⟩) 4 4) hWant ∧ Below W.heap.size W ((((((W.alloc (.cells #[.int .i64 18] 3)).alloc (.cells #[.int .i64 1, .int .i64 2] 3)).alloc (.cells #[.int .i64 1] 3)).alloc (.cells #[.int .i64 1, .int .i64 3] 3)).alloc (.cells #[.bool false, .int .i64 0, .slice (some ⟨W.heap.size, 0, none⟩) 1 1, .slice (some ⟨W.heap.size + 1, 0, none⟩) 2 2, .bool false, .int .i64 0, .slice none 0 0, .slice none 0 0, .bool false, .int .i64 1, .slice (some ⟨W.heap.size + 1 + 1, 0, none⟩) 1 1, .slice (some ⟨W.heap.size + 1 + 1 + 1, 0, none⟩) 2 2, .bool true, .int .i64 0, .slice none 0 0, .slice none 0 0] 55)).alloc (.cells #[.slice (some ⟨W.heap.size + 1 + 1 + 1 + 1, 0, none⟩) 4 4] 34)) := by
 refine ⟨Blk.new' _ _ _ (by simp), ?_, (((((below1 _ _).alloc (by simp) _).alloc (by simp; omega) _).alloc (by simp; omega) _).alloc (by simp; omega) _).alloc (by simp; omega) _⟩
 generalize hn : (Obj.cells #[.bool false, .int .i64 0, .slice (some ⟨W.heap.size, 0, none⟩) 1 1, .slice (some ⟨W.heap.size + 1, 0, none⟩) 2 2, .bool false, .int .i64 0, .slice none 0 0, .slice none 0 0, .bool false, .int .i64 1, .slice (some ⟨W.heap.size + 1 + 1, 0, none⟩) 1 1, .slice (some ⟨W.heap.size + 1 + 1 + 1, 0, none⟩) 2 2, .bool true, .int .i64 0, .slice none 0 0, .slice none 0 0] 55) = oN
 generalize (Obj.cells #[.slice (some ⟨W.heap.size + 1 + 1 + 1 + 1, 0, none⟩) 4 4] 34) = oG
 have h0 := ((((((Blk.new W 3 #[.int .i64 18]).alloc (.cells #[.int .i64 1, .int .i64 2] 3)).alloc (.cells #[.int .i64 1] 3)).alloc (.cells #[.int .i64 1, .int .i64 3] 3)).alloc oN).alloc oG)
 have h1 := (((((Blk.new' (W.alloc (.cells #[.int .i64 18] 3)) 3 #[.int .i64 1, .int .i64 2] (n := W.heap.size + 1) (by simp)).alloc (.cells #[.int .i64 1] 3)).alloc (.cells #[.int .i64 1, .int .i64 3] 3)).alloc oN).alloc oG)
 have h2 := ((((Blk.new' ((W.alloc (.cells #[.int .i64 18] 3)).alloc (.cells #[.int .i64 1, .int .i64 2] 3)) 3 #[.int .i64 1] (n := W.heap.size + 1 + 1) (by simp)).alloc (.cells #[.int .i64 1, .int .i64 3] 3)).alloc oN).alloc oG)
 have h3 := (((Blk.new' (((W.alloc (.cells #[.int .i64 18] 3)).alloc (.cells #[.int .i64 1, .int .i64 2] 3)).alloc (.cells #[.int .i64 1] 3)) 3 #[.int .i64 1, .int .i64 3] (n := W.heap.size + 1 + 1 + 1) (by simp)).alloc oN).alloc oG)
 have hr := (Blk.new' ((((W.alloc (.cells #[.int .i64 18] 3)).alloc (.cells #[.int .i64 1, .int .i64 2] 3)).alloc (.cells #[.int .i64 1] 3)).alloc (.cells #[.int .i64 1, .int .i64 3] 3)) 55 #[.bool false, .int .i64 0, .slice (some ⟨W.heap.size, 0, none⟩) 1 1, .slice (some ⟨W.heap.size + 1, 0, none⟩) 2 2, .bool false, .int .i64 0, .slice none 0 0, .slice none 0 0, .bool false, .int .i64 1, .slice (some ⟨W.heap.size + 1 + 1, 0, none⟩) 1 1, .slice (some ⟨W.heap.size + 1 + 1 + 1, 0, none⟩) 2 2, .bool true, .int .i64 0, .slice none 0 0, .slice none 0 0] (n := W.heap.size + 1 + 1 + 1 + 1) (by simp)).alloc oG
 rw [hn] at hr
 generalize ((((((W.alloc (.cells #[.int .i64 18] 3)).alloc (.cells #[.int .i64 1, .int .i64 2] 3)).alloc (.cells #[.int .i64 1] 3)).alloc (.cells #[.int .i64 1, .int .i64 3] 3)).alloc oN).alloc oG) = W1 at *
 have k0 := ints_rowA (xs := [18]) h0 (by intro x hx; simp at hx; subst hx; exact I64.of (by decide) (by decide)) (by simp)
 have k1 := ints_rowA (xs := [1, 2]) h1 (by intro x hx; simp at hx; rcases hx with rfl | rfl <;> exact I64.of (by decide) (by decide)) (by simp)
 have k2 := ints_rowA (xs := [1]) h2 (by intro x hx; simp at hx; subst hx; exact I64.of (by decide) (by decide)) (by simp)
 have k3 := ints_rowA (xs := [1, 3]) h3 (by intro x hx; simp at hx; rcases hx with rfl | rfl <;> exact I64.of (by decide) (by decide)) (by simp)
 have T : ∀ o, o ≤ 12 → ∀ j u (cs : List Value), cs.length = 4 → (∀ j, j < 4 → cs[j]? = W1.cell? ⟨W.heap.size + 1 + 1 + 1 + 1, o + j, none⟩) → cs[j]? = some u → W1.cell? ⟨W.heap.size + 1 + 1 + 1 + 1, o + j, none⟩ = some u := fun o _ j u cs hl h hu => by
  have hj : j < 4 := by have := (List.getElem?_eq_some_iff.1 hu).1; omega
  rw [← h j hj]; exact hu
 have A4 : ∀ (P : Nat → Prop), P 0 → P 1 → P 2 → P 3 → ∀ j, j < 4 → P j := fun P a b c d j hj => by
  have : j = 0 ∨ j = 1 ∨ j = 2 ∨ j = 3 := by omega
  rcases this with rfl | rfl | rfl | rfl <;> assumption
 refine ⟨some ⟨W.heap.size + 1 + 1 + 1 + 1, 0, none⟩, 4, rfl, Nat.le_refl _, by omega, by simp [hWant], ?_⟩
 refine ⟨_, 0, [.bool false, .int .i64 0, .slice (some ⟨W.heap.size, 0, none⟩) 1 1, .slice (some ⟨W.heap.size + 1, 0, none⟩) 2 2], rfl, trivial, fun j u hu => T 0 (by omega) j u _ rfl (A4 _ ?_ ?_ ?_ ?_) hu, ⟨_, _, rfl, I64.of (by decide) (by decide), k0, k1⟩,
  _, 0 + 4, [.bool false, .int .i64 0, .slice none 0 0, .slice none 0 0], rfl, trivial, fun j u hu => T 4 (by omega) j u _ rfl (A4 _ ?_ ?_ ?_ ?_) hu, ⟨_, _, rfl, I64.of (n := 0) (by decide) (by decide), Ints.nil _ _, Ints.nil _ _⟩,
  _, 0 + 4 + 4, [.bool false, .int .i64 1, .slice (some ⟨W.heap.size + 1 + 1, 0, none⟩) 1 1, .slice (some ⟨W.heap.size + 1 + 1 + 1, 0, none⟩) 2 2], rfl, trivial, fun j u hu => T 8 (by omega) j u _ rfl (A4 _ ?_ ?_ ?_ ?_) hu, ⟨_, _, rfl, I64.of (by decide) (by decide), k2, k3⟩,
  _, 0 + 4 + 4 + 4, [.bool true, .int .i64 0, .slice none 0 0, .slice none 0 0], rfl, trivial, fun j u hu => T 12 (by omega) j u _ rfl (A4 _ ?_ ?_ ?_ ?_) hu, ⟨_, _, rfl, I64.of (n := 0) (by decide) (by decide), Ints.nil _ _, Ints.nil _ _⟩, trivial⟩ <;> (rw [hr.cell]; rfl)
end Go.Proofs.YtcigjmlileckhaaGreatDoor
