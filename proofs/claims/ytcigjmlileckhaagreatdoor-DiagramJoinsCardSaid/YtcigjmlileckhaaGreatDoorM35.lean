/- The walk of the examples' check (printed by mkW61.py). -/
import Derived.Test.YtcigjmlileckhaaGreatDoorM25
import Derived.Test.YtcigjmlileckhaaGreatDoorM33
import Derived.Test.YtcigjmlileckhaaGreatDoorM34
import Derived.Test.YtcigjmlileckhaaGreatDoorM15
import Derived.Test.YtcigjmlileckhaaGreatDoorM14
import Derived.Test.YtcigjmlileckhaaGreatDoorM7
import Derived.Deep.CutRange
/- The walk of the examples' check (printed by mkW61.py). -/
namespace Go.Proofs.YtcigjmlileckhaaGreatDoor
open Go.RowKit
theorem h_build {W : World} {D : Option Addr} {dcap bd : Nat} (hF : Facts (fun b => b = bd) W (.slice D 2 dcap) hDom) (hbd : bd < W.heap.size) (htab : TabB W.heap.size W) {Zf : Zone} {f : Fm} {cs : List Value} {g : List NodeD} {n : Int}
  (hf : FmR Zf W f cs) (hzf : ∀ b, Zf b → b < W.heap.size) (hsz : fsize f ≤ 4000000) (hr : buildS hDom f = (g, n)) :
  Calls Tryz.prog 12 #[.agg cs.toArray, .agg #[.slice D 2 dcap]] W fun e w' => ∃ A k cap, e = .returned (.tuple #[.agg #[.slice A k cap], .int .i64 n]) ∧ Nodes (fun b => W.heap.size ≤ b) w' (.slice A k cap) g ∧ Below W.heap.size W w' := by
 have h := build_any Zf (fun b => b = bd) (.slice D 2 dcap) f cs hDom W hf hzf hF (fun b hb => hb ▸ hbd) hsz htab
 rw [hr] at h
 refine h.mono ?_
 rintro e w' ⟨v, rfl, hn, hb⟩
 obtain ⟨A, cap, rfl, -, -, -⟩ := hn.open_
 exact ⟨A, g.length, cap, rfl, hn.mono (fun b h => h.elim False.elim id), hb⟩
theorem h_leastc (W : World) {Z : Zone} {vg vd : Value} (hg : Nodes Z W vg hWant) (hd : Facts Z W vd hDom) (htab : TabB W.heap.size W) :
  Calls Tryz.prog 20 #[.agg #[vg], .agg #[vd]] W fun e w' => ∃ A k cap, e = .returned (.tuple #[.slice A k cap, .bool true]) ∧ Ints (fun _ => True) w' (.slice A k cap) [18, 1] ∧ Below W.heap.size W w' := by
 have h := dleast_any Z vg vd hWant hDom W hg hd htab
 rw [h_least] at h
 refine h.mono ?_
 rintro e w' ⟨v, rfl, hn, hb⟩
 obtain ⟨A, cap, rfl, -⟩ := hn.form
 exact ⟨A, _, cap, rfl, hn.mono (fun _ _ => trivial), hb⟩
theorem h_same (W : World) {Z Z' : Zone} {v v' : Value} {a : List NodeD} (ha : Nodes Z W v a) (hb : Nodes Z' W v' a) :
  Calls Tryz.prog 27 #[.agg #[v], .agg #[v']] W fun e w' => e = .returned (.bool true) ∧ Below W.heap.size W w' := by
 have h := refSame_any Z Z' v v' a a W ha hb
 rw [decide_eq_true rfl] at h
 exact h
theorem h_ints (W : World) {Z Z' : Zone} {v v' : Value} {a : List Int} (ha : Ints Z W v a) (hb : Ints Z' W v' a) :
  Calls Tryz.prog 28 #[v, v'] W fun e w' => e = .returned (.bool true) ∧ Below W.heap.size W w' := by
 have h := refInts_any Z Z' v v' a a W ha hb
 rw [decide_eq_true rfl] at h
 exact h
theorem h_valid1 (W : World) {Z : Zone} {vg vd : Value} (hg : Nodes Z W vg hWant) (hd : Facts Z W vd hDom) (htab : TabB W.heap.size W) :
  Calls Tryz.prog 15 #[.agg #[vg], .agg #[vd]] W fun e w' => e = .returned (.bool true) ∧ Below W.heap.size W w' := by
 have h := dvalid_any Z vg vd hWant hDom W hg hd htab
 rw [h_valid] at h
 exact h
theorem h_valid2 (W : World) {vd : Value} (hd : Facts (fun _ => True) W vd hDom) (htab : TabB W.heap.size W) :
  Calls Tryz.prog 15 #[.agg #[.slice none 0 0], .agg #[vd]] W fun e w' => e = .returned (.bool false) ∧ Below W.heap.size W w' := by
 have h := dvalid_any (fun _ => True) (.slice none 0 0) vd [] hDom W (nil_nodes _ _) hd htab
 rw [h_invalid] at h
 exact h
set_option maxRecDepth 100000 in
set_option maxHeartbeats 64000000 in
theorem head_any (w : World) (htab : TabB w.heap.size w) : Calls Tryz.prog 10 #[] w fun e w' => e = .returned (.bool true) ∧ Below w.heap.size w w' := by
 go_enter Tryz.func10, Tryz.ntmps10
 have HTAB := hid htab
 clear htab
 go_wp2_with fail
 refine (domain_any _).mono ?_
 rintro e w1 ⟨vd, rfl, hF, hbd, hb1⟩
 obtain ⟨D, dcap, hvd, -, -, -⟩ := hF.open_
 have hvd : vd = .slice D 2 dcap := hvd
 subst hvd
 have HF := hid hF
 have HBD := hid hbd
 have HW := hid hb1
 clear hF hb1 hbd
 go_wp2_with fail
 refine (test_any _ _ _ _).mono ?_
 rintro e w2 ⟨rfl, hb2⟩
 have hba : Below w1.heap.size w1 w2 := ((below1 w1 (.cells #[.slice D 2 dcap] 27)).trans (hb2.mono (by simp)))
 have hD1 := (Blk.new w1 27 #[.slice D 2 dcap]).below hb2 (by simp)
 have hb : Below w1.heap.size w1 (w2.alloc (.cells #[.int .i64 3, .string ⟨#[109, 105, 108, 105, 116, 97, 114, 121]⟩, .int .i64 1, .int .i64 1, .slice none 0 0] 24)) := hba.alloc hba.size _
 have hD2 := hD1.alloc (.cells #[.int .i64 3, .string ⟨#[109, 105, 108, 105, 116, 97, 114, 121]⟩, .int .i64 1, .int .i64 1, .slice none 0 0] 24)
 have hX2 := Blk.new w2 24 #[.int .i64 3, .string ⟨#[109, 105, 108, 105, 116, 97, 114, 121]⟩, .int .i64 1, .int .i64 1, .slice none 0 0]
 replace HBD := hid (Nat.lt_of_lt_of_le HBD.out hb.size)
 replace HW := hid (HW.out.trans (hb.mono HW.out.size))
 replace HF := hid (HF.out.keep (Keeps.of_below hb))
 clear hb hba hb2
 have HD := hid hD2
 have H2 := hid hX2
 clear hD1 hD2 hX2
 go_upto_region 3 with fail
 generalize w2.alloc (.cells #[.int .i64 3, .string ⟨#[109, 105, 108, 105, 116, 97, 114, 121]⟩, .int .i64 1, .int .i64 1, .slice none 0 0] 24) = W2 at *
 generalize w2.heap.size = b2 at *
 generalize w1.heap.size = b1 at *
 clear w2 w1
 generalize w.heap.size + 1 = bd at *
 go_cut [3] from 22 to 25 (fun v3 wx => ∃ b3 row, v3 = .pointer (some ⟨b3, 0, none⟩) ∧ Blk wx b3 24 #[.int .i64 5, .string ⟨#[]⟩, .int .i64 0, .int .i64 0, .slice (some ⟨row, 0, none⟩) 2 2] ∧ Blk wx row 24 #[.int .i64 3, .string ⟨#[119, 101, 105, 103, 104, 116]⟩, .int .i64 6, .int .i64 18, .slice none 0 0, .int .i64 3, .string ⟨#[109, 105, 108, 105, 116, 97, 114, 121]⟩, .int .i64 1, .int .i64 1, .slice none 0 0] ∧ Below W2.heap.size W2 wx)
 case first =>
  have HC := hid (fun (W : World) (hW : Keeps (fun b => b = b1 ∨ b = b2) W2 W) => (show W.cell? ⟨b1, 0, none⟩ = some (.slice D 2 dcap) ∧ W.cell? ⟨b2, 0, none⟩ = some (.int .i64 3) ∧ W.cell? ⟨b2, 1, none⟩ = some (.string ⟨#[109, 105, 108, 105, 116, 97, 114, 121]⟩) ∧ W.cell? ⟨b2, 2, none⟩ = some (.int .i64 1) ∧ W.cell? ⟨b2, 3, none⟩ = some (.int .i64 1) ∧ W.cell? ⟨b2, 4, none⟩ = some (.slice none 0 0) from by
   have hb := H2.out.keep hW (Or.inr rfl)
   exact ⟨(HD.out.keep hW (Or.inl rfl)).cell 0, hb.cell 0, hb.cell 1, hb.cell 2, hb.cell 3, hb.cell 4⟩))
  refine wp_region_S 5 (fun W => Keeps (fun b => b = b1 ∨ b = b2) W2 W) (by kernel_rfl) ?_
  have hB0 : Below W2.heap.size W2 W2.drew := (Below.refl _ _).drew
  generalize W2.drew = x0 at *
  have hS : (fun W => Keeps (fun b => b = b1 ∨ b = b2) W2 W) x0 := .of_below hB0
  (refine wpAnyS_take (i := 1) (v := ?_) rfl (by kernel_rfl) (by kernel_rfl) (fun _ _ _ h => h) (Or.inl ⟨by rfl, ?_⟩) hS ?_; rotate_left; (intro w hSw; have hkw := hSw; obtain ⟨hd, h0, h1, h2, h3, h4⟩ := HC.out _ hkw; go_simp; (try with_reducible rfl)); ((try simp only [Act.put]); (try simp only [nrA]); (try simp only [nrB]); (try simp only [nrC])))
  clear hS
  refine wpAnyS_two (i := 0) (j := 4) (by kernel_rfl) rfl rfl rfl rfl (fun K hK => ?_) (fun K hK => ?_)
  ·go_wp2_with fail
   refine (test_any _ _ _ _).mono ?_
   rintro e x1 ⟨rfl, hb⟩
   have hB1 : Below W2.heap.size W2 x1 := hB0.trans (hb.mono hB0.size)
   refine hK _ _ (Or.inr (.of_below hB1)) ?_
   clear hK K hb
   ((try simp only [Act.put]); (try simp only [nrA]); (try simp only [nrB]); (try simp only [nrC]))
   refine wpAnyS_two (i := 2) (j := 4) (by kernel_rfl) rfl rfl rfl rfl (fun K hK => ?_) (fun K hK => ?_)
   ·go_wp2_with fail
    refine hK _ _ (Or.inr (.of_below (hB1.alloc hB1.size _))) ?_
    clear hK K
    ((try simp only [Act.put]); (try simp only [nrA]); (try simp only [nrB]); (try simp only [nrC]))
    have hB2 : Below W2.heap.size W2 (x1.alloc (.cells #[.int .i64 3, .string ⟨#[119, 101, 105, 103, 104, 116]⟩, .int .i64 6, .int .i64 18, .slice none 0 0, .int .i64 3, .string ⟨#[109, 105, 108, 105, 116, 97, 114, 121]⟩, .int .i64 1, .int .i64 1, .slice none 0 0] 24)) := hB1.alloc hB1.size _
    have hR2 := Blk.new x1 24 #[.int .i64 3, .string ⟨#[119, 101, 105, 103, 104, 116]⟩, .int .i64 6, .int .i64 18, .slice none 0 0, .int .i64 3, .string ⟨#[109, 105, 108, 105, 116, 97, 114, 121]⟩, .int .i64 1, .int .i64 1, .slice none 0 0]
    generalize x1.alloc (.cells #[.int .i64 3, .string ⟨#[119, 101, 105, 103, 104, 116]⟩, .int .i64 6, .int .i64 18, .slice none 0 0, .int .i64 3, .string ⟨#[109, 105, 108, 105, 116, 97, 114, 121]⟩, .int .i64 1, .int .i64 1, .slice none 0 0] 24) = x2 at *
    have hS : (fun W => Keeps (fun b => b = b1 ∨ b = b2) W2 W) x2 := .of_below hB2
    (refine wpAnyS_take0 (i := 3) (v := ?_) rfl (by kernel_rfl) (by kernel_rfl) (fun _ _ _ h => h) (Or.inl ⟨by rfl, ?_⟩) (Or.inr hS) ?_; rotate_left; (intro w hSw; clear hSw; go_simp; (try with_reducible rfl)); ((try simp only [Act.put]); (try simp only [nrA]); (try simp only [nrB]); (try simp only [nrC])))
    clear hS
    refine wpAnyS_one (i := 4) (by kernel_rfl) rfl rfl (fun K hK => ?_)
    go_wp2_with fail
    refine hK _ _ (Or.inr (.of_below (hB2.alloc hB2.size _))) ?_
    clear hK K
    ((try simp only [Act.put]); (try simp only [nrA]); (try simp only [nrB]); (try simp only [nrC]))
    have hB3 : Below W2.heap.size W2 (x2.alloc (.cells #[.int .i64 0, .string ⟨#[]⟩, .int .i64 0, .int .i64 0, .slice none 0 0] 24)) := hB2.alloc hB2.size _
    have hX3 := Blk.new x2 24 #[.int .i64 0, .string ⟨#[]⟩, .int .i64 0, .int .i64 0, .slice none 0 0]
    have hR3 := hR2.alloc (.cells #[.int .i64 0, .string ⟨#[]⟩, .int .i64 0, .int .i64 0, .slice none 0 0] 24)
    have hne : x1.heap.size ≠ x2.heap.size := Nat.ne_of_lt hR2.lt
    generalize x2.alloc (.cells #[.int .i64 0, .string ⟨#[]⟩, .int .i64 0, .int .i64 0, .slice none 0 0] 24) = x3 at *
    refine wpAnyS_one (i := 5) (by kernel_rfl) rfl rfl (fun K hK => ?_)
    have c0 : x3.cell? ⟨x2.heap.size, 0, none⟩ = some (.int .i64 0) := hX3.cell 0
    have g0 : x3.frozen? ⟨x2.heap.size, 0, none⟩ = false := hX3.frozen 0
    have c1 : x3.cell? ⟨x2.heap.size, 1, none⟩ = some (.string ⟨#[]⟩) := hX3.cell 1
    have g1 : x3.frozen? ⟨x2.heap.size, 1, none⟩ = false := hX3.frozen 1
    have c2 : x3.cell? ⟨x2.heap.size, 2, none⟩ = some (.int .i64 0) := hX3.cell 2
    have g2 : x3.frozen? ⟨x2.heap.size, 2, none⟩ = false := hX3.frozen 2
    have c3 : x3.cell? ⟨x2.heap.size, 3, none⟩ = some (.int .i64 0) := hX3.cell 3
    have g3 : x3.frozen? ⟨x2.heap.size, 3, none⟩ = false := hX3.frozen 3
    have c4 : x3.cell? ⟨x2.heap.size, 4, none⟩ = some (.slice none 0 0) := hX3.cell 4
    have g4 : x3.frozen? ⟨x2.heap.size, 4, none⟩ = false := hX3.frozen 4
    have cl : x2.heap.size < x3.heap.size := hX3.lt
    have HX := hid hX3
    clear hX3
    have HNE := hid hne
    clear hne
    go_wp2_with fail
    refine hK _ _ (Or.inl rfl) ?_
    clear hK K
    ((try simp only [Act.put]); (try simp only [nrA]); (try simp only [nrB]); (try simp only [nrC]))
    refine wpAnyS_done (by kernel_rfl) ?_ _
    go_wp2_with fail
    go_meet
    exact ⟨x2.heap.size, x1.heap.size, rfl, (((((HX.out.set_ 0 _).set_ 1 _).set_ 2 _).set_ 3 _).set_ 4 _), (((((hR3.far HNE.out _).far HNE.out _).far HNE.out _).far HNE.out _).far HNE.out _), (((((hB3.setCell hB2.size _).setCell hB2.size _).setCell hB2.size _).setCell hB2.size _).setCell hB2.size _)⟩
   ·go_wp2_with fail
    refine hK _ _ (Or.inr (.of_below (hB1.alloc hB1.size _))) ?_
    clear hK K
    ((try simp only [Act.put]); (try simp only [nrA]); (try simp only [nrB]); (try simp only [nrC]))
    have hB2 : Below W2.heap.size W2 (x1.alloc (.cells #[.int .i64 0, .string ⟨#[]⟩, .int .i64 0, .int .i64 0, .slice none 0 0] 24)) := hB1.alloc hB1.size _
    have hX2 := Blk.new x1 24 #[.int .i64 0, .string ⟨#[]⟩, .int .i64 0, .int .i64 0, .slice none 0 0]
    generalize x1.alloc (.cells #[.int .i64 0, .string ⟨#[]⟩, .int .i64 0, .int .i64 0, .slice none 0 0] 24) = x2 at *
    refine wpAnyS_one (i := 2) (by kernel_rfl) rfl rfl (fun K hK => ?_)
    go_wp2_with fail
    refine hK _ _ (Or.inr (.of_below (hB2.alloc hB2.size _))) ?_
    clear hK K
    ((try simp only [Act.put]); (try simp only [nrA]); (try simp only [nrB]); (try simp only [nrC]))
    have hB3 : Below W2.heap.size W2 (x2.alloc (.cells #[.int .i64 3, .string ⟨#[119, 101, 105, 103, 104, 116]⟩, .int .i64 6, .int .i64 18, .slice none 0 0, .int .i64 3, .string ⟨#[109, 105, 108, 105, 116, 97, 114, 121]⟩, .int .i64 1, .int .i64 1, .slice none 0 0] 24)) := hB2.alloc hB2.size _
    have hX3 := hX2.alloc (.cells #[.int .i64 3, .string ⟨#[119, 101, 105, 103, 104, 116]⟩, .int .i64 6, .int .i64 18, .slice none 0 0, .int .i64 3, .string ⟨#[109, 105, 108, 105, 116, 97, 114, 121]⟩, .int .i64 1, .int .i64 1, .slice none 0 0] 24)
    have hR3 := Blk.new x2 24 #[.int .i64 3, .string ⟨#[119, 101, 105, 103, 104, 116]⟩, .int .i64 6, .int .i64 18, .slice none 0 0, .int .i64 3, .string ⟨#[109, 105, 108, 105, 116, 97, 114, 121]⟩, .int .i64 1, .int .i64 1, .slice none 0 0]
    have hne : x2.heap.size ≠ x1.heap.size := Nat.ne_of_gt hX2.lt
    generalize x2.alloc (.cells #[.int .i64 3, .string ⟨#[119, 101, 105, 103, 104, 116]⟩, .int .i64 6, .int .i64 18, .slice none 0 0, .int .i64 3, .string ⟨#[109, 105, 108, 105, 116, 97, 114, 121]⟩, .int .i64 1, .int .i64 1, .slice none 0 0] 24) = x3 at *
    have hS : (fun W => Keeps (fun b => b = b1 ∨ b = b2) W2 W) x3 := .of_below hB3
    (refine wpAnyS_take0 (i := 3) (v := ?_) rfl (by kernel_rfl) (by kernel_rfl) (fun _ _ _ h => h) (Or.inl ⟨by rfl, ?_⟩) (Or.inr hS) ?_; rotate_left; (intro w hSw; clear hSw; go_simp; (try with_reducible rfl)); ((try simp only [Act.put]); (try simp only [nrA]); (try simp only [nrB]); (try simp only [nrC])))
    clear hS
    refine wpAnyS_one (i := 5) (by kernel_rfl) rfl rfl (fun K hK => ?_)
    have c0 : x3.cell? ⟨x1.heap.size, 0, none⟩ = some (.int .i64 0) := hX3.cell 0
    have g0 : x3.frozen? ⟨x1.heap.size, 0, none⟩ = false := hX3.frozen 0
    have c1 : x3.cell? ⟨x1.heap.size, 1, none⟩ = some (.string ⟨#[]⟩) := hX3.cell 1
    have g1 : x3.frozen? ⟨x1.heap.size, 1, none⟩ = false := hX3.frozen 1
    have c2 : x3.cell? ⟨x1.heap.size, 2, none⟩ = some (.int .i64 0) := hX3.cell 2
    have g2 : x3.frozen? ⟨x1.heap.size, 2, none⟩ = false := hX3.frozen 2
    have c3 : x3.cell? ⟨x1.heap.size, 3, none⟩ = some (.int .i64 0) := hX3.cell 3
    have g3 : x3.frozen? ⟨x1.heap.size, 3, none⟩ = false := hX3.frozen 3
    have c4 : x3.cell? ⟨x1.heap.size, 4, none⟩ = some (.slice none 0 0) := hX3.cell 4
    have g4 : x3.frozen? ⟨x1.heap.size, 4, none⟩ = false := hX3.frozen 4
    have cl : x1.heap.size < x3.heap.size := hX3.lt
    have HX := hid hX3
    clear hX3
    have HNE := hid hne
    clear hne
    go_wp2_with fail
    refine hK _ _ (Or.inl rfl) ?_
    clear hK K
    ((try simp only [Act.put]); (try simp only [nrA]); (try simp only [nrB]); (try simp only [nrC]))
    refine wpAnyS_done (by kernel_rfl) ?_ _
    go_wp2_with fail
    go_meet
    exact ⟨x1.heap.size, x2.heap.size, rfl, (((((HX.out.set_ 0 _).set_ 1 _).set_ 2 _).set_ 3 _).set_ 4 _), (((((hR3.far HNE.out _).far HNE.out _).far HNE.out _).far HNE.out _).far HNE.out _), (((((hB3.setCell hB1.size _).setCell hB1.size _).setCell hB1.size _).setCell hB1.size _).setCell hB1.size _)⟩
  ·go_wp2_with fail
   refine hK _ _ (Or.inr (.of_below (hB0.alloc hB0.size _))) ?_
   clear hK K
   ((try simp only [Act.put]); (try simp only [nrA]); (try simp only [nrB]); (try simp only [nrC]))
   have hB1 : Below W2.heap.size W2 (x0.alloc (.cells #[.int .i64 0, .string ⟨#[]⟩, .int .i64 0, .int .i64 0, .slice none 0 0] 24)) := hB0.alloc hB0.size _
   have hX1 := Blk.new x0 24 #[.int .i64 0, .string ⟨#[]⟩, .int .i64 0, .int .i64 0, .slice none 0 0]
   generalize x0.alloc (.cells #[.int .i64 0, .string ⟨#[]⟩, .int .i64 0, .int .i64 0, .slice none 0 0] 24) = x1 at *
   refine wpAnyS_one (i := 0) (by kernel_rfl) rfl rfl (fun K hK => ?_)
   go_wp2_with fail
   refine (test_any _ _ _ _).mono ?_
   rintro e x2 ⟨rfl, hb⟩
   have hB2 : Below W2.heap.size W2 x2 := hB1.trans (hb.mono hB1.size)
   have hX2 := hX1.below hb hX1.lt
   refine hK _ _ (Or.inr (.of_below hB2)) ?_
   clear hK K hb
   ((try simp only [Act.put]); (try simp only [nrA]); (try simp only [nrB]); (try simp only [nrC]))
   refine wpAnyS_one (i := 2) (by kernel_rfl) rfl rfl (fun K hK => ?_)
   go_wp2_with fail
   refine hK _ _ (Or.inr (.of_below (hB2.alloc hB2.size _))) ?_
   clear hK K
   ((try simp only [Act.put]); (try simp only [nrA]); (try simp only [nrB]); (try simp only [nrC]))
   have hB3 : Below W2.heap.size W2 (x2.alloc (.cells #[.int .i64 3, .string ⟨#[119, 101, 105, 103, 104, 116]⟩, .int .i64 6, .int .i64 18, .slice none 0 0, .int .i64 3, .string ⟨#[109, 105, 108, 105, 116, 97, 114, 121]⟩, .int .i64 1, .int .i64 1, .slice none 0 0] 24)) := hB2.alloc hB2.size _
   have hX3 := hX2.alloc (.cells #[.int .i64 3, .string ⟨#[119, 101, 105, 103, 104, 116]⟩, .int .i64 6, .int .i64 18, .slice none 0 0, .int .i64 3, .string ⟨#[109, 105, 108, 105, 116, 97, 114, 121]⟩, .int .i64 1, .int .i64 1, .slice none 0 0] 24)
   have hR3 := Blk.new x2 24 #[.int .i64 3, .string ⟨#[119, 101, 105, 103, 104, 116]⟩, .int .i64 6, .int .i64 18, .slice none 0 0, .int .i64 3, .string ⟨#[109, 105, 108, 105, 116, 97, 114, 121]⟩, .int .i64 1, .int .i64 1, .slice none 0 0]
   have hne : x2.heap.size ≠ x0.heap.size := Nat.ne_of_gt hX2.lt
   generalize x2.alloc (.cells #[.int .i64 3, .string ⟨#[119, 101, 105, 103, 104, 116]⟩, .int .i64 6, .int .i64 18, .slice none 0 0, .int .i64 3, .string ⟨#[109, 105, 108, 105, 116, 97, 114, 121]⟩, .int .i64 1, .int .i64 1, .slice none 0 0] 24) = x3 at *
   have hS : (fun W => Keeps (fun b => b = b1 ∨ b = b2) W2 W) x3 := .of_below hB3
   (refine wpAnyS_take0 (i := 3) (v := ?_) rfl (by kernel_rfl) (by kernel_rfl) (fun _ _ _ h => h) (Or.inl ⟨by rfl, ?_⟩) (Or.inr hS) ?_; rotate_left; (intro w hSw; clear hSw; go_simp; (try with_reducible rfl)); ((try simp only [Act.put]); (try simp only [nrA]); (try simp only [nrB]); (try simp only [nrC])))
   clear hS
   refine wpAnyS_one (i := 5) (by kernel_rfl) rfl rfl (fun K hK => ?_)
   have c0 : x3.cell? ⟨x0.heap.size, 0, none⟩ = some (.int .i64 0) := hX3.cell 0
   have g0 : x3.frozen? ⟨x0.heap.size, 0, none⟩ = false := hX3.frozen 0
   have c1 : x3.cell? ⟨x0.heap.size, 1, none⟩ = some (.string ⟨#[]⟩) := hX3.cell 1
   have g1 : x3.frozen? ⟨x0.heap.size, 1, none⟩ = false := hX3.frozen 1
   have c2 : x3.cell? ⟨x0.heap.size, 2, none⟩ = some (.int .i64 0) := hX3.cell 2
   have g2 : x3.frozen? ⟨x0.heap.size, 2, none⟩ = false := hX3.frozen 2
   have c3 : x3.cell? ⟨x0.heap.size, 3, none⟩ = some (.int .i64 0) := hX3.cell 3
   have g3 : x3.frozen? ⟨x0.heap.size, 3, none⟩ = false := hX3.frozen 3
   have c4 : x3.cell? ⟨x0.heap.size, 4, none⟩ = some (.slice none 0 0) := hX3.cell 4
   have g4 : x3.frozen? ⟨x0.heap.size, 4, none⟩ = false := hX3.frozen 4
   have cl : x0.heap.size < x3.heap.size := hX3.lt
   have HX := hid hX3
   clear hX3
   have HNE := hid hne
   clear hne
   go_wp2_with fail
   refine hK _ _ (Or.inl rfl) ?_
   clear hK K
   ((try simp only [Act.put]); (try simp only [nrA]); (try simp only [nrB]); (try simp only [nrC]))
   refine wpAnyS_done (by kernel_rfl) ?_ _
   go_wp2_with fail
   go_meet
   exact ⟨x0.heap.size, x2.heap.size, rfl, (((((HX.out.set_ 0 _).set_ 1 _).set_ 2 _).set_ 3 _).set_ 4 _), (((((hR3.far HNE.out _).far HNE.out _).far HNE.out _).far HNE.out _).far HNE.out _), (((((hB3.setCell hB0.size _).setCell hB0.size _).setCell hB0.size _).setCell hB0.size _).setCell hB0.size _)⟩
 case rest =>
  obtain ⟨b3, row3, rfl, h3, hr3, hb⟩ := hcut
  rename World => W3
  replace HBD := hid (Nat.lt_of_lt_of_le HBD.out hb.size)
  replace HW := hid (HW.out.trans (hb.mono HW.out.size))
  replace HF := hid (HF.out.keep (Keeps.of_below hb))
  replace HD := hid (HD.out.below hb HD.out.lt)
  replace H2 := hid (H2.out.below hb H2.out.lt)
  have H3 := hid h3
  have HR := hid hr3
  clear h3 hr3 hb
  have HBU := hid (h_build HF.out HBD.out ((HTAB.out.on HW.out).mono HW.out.size) (cs := [.int .i64 5, .string ⟨#[]⟩, .int .i64 0, .int .i64 0, .slice (some ⟨row3, 0, none⟩) 2 2]) (g := hWant) (n := 0) (fm_pair HR.out (I64.of (by decide) (by decide)) (by show (6 : Nat) ≤ _; omega) (I64.of (by decide) (by decide)) (I64.of (by decide) (by decide)) (by show (8 : Nat) ≤ _; omega) (I64.of (by decide) (by decide)) (I64.of (by decide) (by decide))) (fun b hb => hb ▸ HR.out.lt) (by decide) h_b1)
  have cH30 : W3.cell? ⟨b3, 0, none⟩ = some (.int .i64 5) := H3.out.cell 0
  have cH31 : W3.cell? ⟨b3, 1, none⟩ = some (.string ⟨#[]⟩) := H3.out.cell 1
  have cH32 : W3.cell? ⟨b3, 2, none⟩ = some (.int .i64 0) := H3.out.cell 2
  have cH33 : W3.cell? ⟨b3, 3, none⟩ = some (.int .i64 0) := H3.out.cell 3
  have cH34 : W3.cell? ⟨b3, 4, none⟩ = some (.slice (some ⟨row3, 0, none⟩) 2 2) := H3.out.cell 4
  have clH3 : b3 < W3.heap.size := H3.out.lt
  have cHD0 : W3.cell? ⟨b1, 0, none⟩ = some (.slice D 2 dcap) := HD.out.cell 0
  have clHD : b1 < W3.heap.size := HD.out.lt
  go_wp2_with fail
  refine HBU.out.mono ?_
  rintro e w4 ⟨A4, k4, cap4, rfl, hn4, hb4⟩
  clear cH30 cH31 cH32 cH33 cH34 clH3
  clear cHD0 clHD
  have hb : Below W3.heap.size W3 (w4.alloc (.cells #[.slice A4 k4 cap4] 34)) := hb4.alloc hb4.size _
  have h4 := Blk.new w4 34 #[.slice A4 k4 cap4]
  have hn := (hn4.keep ((Keeps.refl _ _).alloc (.cells #[.slice A4 k4 cap4] 34))).mono (Z' := fun _ => True) (fun _ _ => trivial)
  replace HBD := hid (Nat.lt_of_lt_of_le HBD.out hb.size)
  replace HW := hid (HW.out.trans (hb.mono HW.out.size))
  replace HF := hid (HF.out.keep (Keeps.of_below hb))
  replace HD := hid (HD.out.below hb HD.out.lt)
  replace H2 := hid (H2.out.below hb H2.out.lt)
  replace H3 := hid (H3.out.below hb H3.out.lt)
  replace HR := hid (HR.out.below hb HR.out.lt)
  clear hb hn4 hb4 HBU
  have H4 := hid h4
  have N4 := hid hn
  clear h4 hn
  go_upto_region 5 with fail
  generalize w4.alloc (.cells #[.slice A4 k4 cap4] 34) = W4 at *
  generalize w4.heap.size = b4 at *
  clear w4
  have HBU := hid (fun (W : World) (hW : Below W4.heap.size W4 W) => h_build (HF.out.keep (Keeps.of_below hW)) (Nat.lt_of_lt_of_le HBD.out hW.size) ((HTAB.out.on (HW.out.trans (hW.mono HW.out.size))).mono (Nat.le_trans HW.out.size hW.size)) (cs := [.int .i64 3, .string ⟨#[119, 101, 105, 103, 104, 116]⟩, .int .i64 6, .int .i64 0, .slice none 0 0]) (g := [⟨true, 0, [], []⟩]) (n := 0) (fm_leaf (fun _ => False) W (nm := ⟨#[119, 101, 105, 103, 104, 116]⟩) (c := 6) (n := 0) (by show (6 : Nat) ≤ _; omega) (I64.of (by decide) (by decide)) (I64.of (by decide) (by decide))) (fun b hb => hb.elim) (by decide) h_b2)
  go_cut [6, 7] from 32 to 37 (fun vp ve wx => ∃ bx A k cap, vp = .pointer (some ⟨bx, 0, none⟩) ∧ ve = .int .i64 0 ∧ Blk wx bx 34 #[.slice A k cap] ∧ Nodes (fun _ => True) wx (.slice A k cap) ([⟨true, 0, [], []⟩]) ∧ Below W4.heap.size W4 wx)
  case first =>
   have HC := hid (fun (W : World) (hW : Keeps (fun b => b = b1 ∨ b = b2) W4 W) => (show W.cell? ⟨b1, 0, none⟩ = some (.slice D 2 dcap) ∧ W.cell? ⟨b2, 0, none⟩ = some (.int .i64 3) ∧ W.cell? ⟨b2, 1, none⟩ = some (.string ⟨#[109, 105, 108, 105, 116, 97, 114, 121]⟩) ∧ W.cell? ⟨b2, 2, none⟩ = some (.int .i64 1) ∧ W.cell? ⟨b2, 3, none⟩ = some (.int .i64 1) ∧ W.cell? ⟨b2, 4, none⟩ = some (.slice none 0 0) from by
    have hb := H2.out.keep hW (Or.inr rfl)
    exact ⟨(HD.out.keep hW (Or.inl rfl)).cell 0, hb.cell 0, hb.cell 1, hb.cell 2, hb.cell 3, hb.cell 4⟩))
   refine wp_region_S 7 (fun W => Keeps (fun b => b = b1 ∨ b = b2) W4 W) (by kernel_rfl) ?_
   have hB0 : Below W4.heap.size W4 W4.drew := (Below.refl _ _).drew
   generalize W4.drew = x0 at *
   have hS : (fun W => Keeps (fun b => b = b1 ∨ b = b2) W4 W) x0 := .of_below hB0
   (refine wpAnyS_take (i := 1) (v := ?_) rfl (by kernel_rfl) (by kernel_rfl) (fun _ _ _ h => h) (Or.inl ⟨by rfl, ?_⟩) hS ?_; rotate_left; (intro w hSw; have hkw := hSw; obtain ⟨hd, h0, h1, h2, h3, h4⟩ := HC.out _ hkw; go_simp; (try with_reducible rfl)); ((try simp only [Act.put]); (try simp only [nrA]); (try simp only [nrB]); (try simp only [nrC])))
   clear hS
   refine wpAnyS_two (i := 0) (j := 6) (by kernel_rfl) rfl rfl rfl rfl (fun K hK => ?_) (fun K hK => ?_)
   ·go_wp2_with fail
    refine (test_any _ _ _ _).mono ?_
    rintro e x1 ⟨rfl, hb⟩
    have hB1 : Below W4.heap.size W4 x1 := hB0.trans (hb.mono hB0.size)
    refine hK _ _ (Or.inr (.of_below hB1)) ?_
    clear hK K hb
    ((try simp only [Act.put]); (try simp only [nrA]); (try simp only [nrB]); (try simp only [nrC]))
    refine wpAnyS_two (i := 2) (j := 6) (by kernel_rfl) rfl rfl rfl rfl (fun K hK => ?_) (fun K hK => ?_)
    ·go_wp2_with fail
     refine (HBU.out _ hB1).mono ?_
     rintro e x2 ⟨A, k, cap, rfl, hN, hb⟩
     have hB2 : Below W4.heap.size W4 x2 := hB1.trans (hb.mono hB1.size)
     refine hK _ _ (Or.inr (.of_below hB2)) ?_
     clear hK K hb
     ((try simp only [Act.put]); (try simp only [nrA]); (try simp only [nrB]); (try simp only [nrC]))
     have hS : (fun W => Keeps (fun b => b = b1 ∨ b = b2) W4 W) x2 := .of_below hB2
     (refine wpAnyS_take0 (i := 3) (v := ?_) rfl (by kernel_rfl) (by kernel_rfl) (fun _ _ _ h => h) (Or.inl ⟨by rfl, ?_⟩) (Or.inr hS) ?_; rotate_left; (intro w hSw; clear hSw; go_simp; (try with_reducible rfl)); ((try simp only [Act.put]); (try simp only [nrA]); (try simp only [nrB]); (try simp only [nrC])))
     (refine wpAnyS_take0 (i := 4) (v := ?_) rfl (by kernel_rfl) (by kernel_rfl) (fun _ _ _ h => h) (Or.inl ⟨by rfl, ?_⟩) (Or.inr hS) ?_; rotate_left; (intro w hSw; clear hSw; go_simp; (try with_reducible rfl)); ((try simp only [Act.put]); (try simp only [nrA]); (try simp only [nrB]); (try simp only [nrC])))
     (refine wpAnyS_take0 (i := 5) (v := ?_) rfl (by kernel_rfl) (by kernel_rfl) (fun _ _ _ h => h) (Or.inl ⟨by rfl, ?_⟩) (Or.inr hS) ?_; rotate_left; (intro w hSw; clear hSw; go_simp; (try with_reducible rfl)); ((try simp only [Act.put]); (try simp only [nrA]); (try simp only [nrB]); (try simp only [nrC])))
     clear hS
     refine wpAnyS_one (i := 6) (by kernel_rfl) rfl rfl (fun K hK => ?_)
     go_wp2_with fail
     refine hK _ _ (Or.inr (.of_below (hB2.alloc hB2.size _))) ?_
     clear hK K
     ((try simp only [Act.put]); (try simp only [nrA]); (try simp only [nrB]); (try simp only [nrC]))
     have hB3 : Below W4.heap.size W4 (x2.alloc (.cells #[.slice none 0 0] 34)) := hB2.alloc hB2.size _
     have hX3 := Blk.new x2 34 #[.slice none 0 0]
     have hKA : Keeps (fun b => x1.heap.size ≤ b) x2 (x2.alloc (.cells #[.slice none 0 0] 34)) := (Keeps.refl _ _).alloc _
     generalize x2.alloc (.cells #[.slice none 0 0] 34) = x3 at *
     refine wpAnyS_one (i := 7) (by kernel_rfl) rfl rfl (fun K hK => ?_)
     have c0 : x3.cell? ⟨x2.heap.size, 0, none⟩ = some (.slice none 0 0) := hX3.cell 0
     have g0 : x3.frozen? ⟨x2.heap.size, 0, none⟩ = false := hX3.frozen 0
     have cl : x2.heap.size < x3.heap.size := hX3.lt
     have HX := hid hX3
     clear hX3
     go_wp2_with fail
     refine hK _ _ (Or.inl rfl) ?_
     clear hK K
     ((try simp only [Act.put]); (try simp only [nrA]); (try simp only [nrB]); (try simp only [nrC]))
     refine wpAnyS_one (i := 8) (by kernel_rfl) rfl rfl (fun K hK => ?_)
     go_wp2_with fail
     refine hK _ _ (Or.inl rfl) ?_
     clear hK K
     ((try simp only [Act.put]); (try simp only [nrA]); (try simp only [nrB]); (try simp only [nrC]))
     refine wpAnyS_done (by kernel_rfl) ?_ _
     go_wp2_with fail
     go_meet
     exact ⟨x2.heap.size, A, k, cap, rfl, rfl, (HX.out.set_ 0 _), (Nodes.keep (Z := fun b => x1.heap.size ≤ b) hN (hKA.setCell (fun h => absurd h (Nat.lt_irrefl _)) _)).mono (fun _ _ => trivial), (hB3.setCell hB2.size _)⟩
    ·go_wp2_with fail
     refine hK _ _ (Or.inr (.of_below (hB1.alloc hB1.size _))) ?_
     clear hK K
     ((try simp only [Act.put]); (try simp only [nrA]); (try simp only [nrB]); (try simp only [nrC]))
     have hB2 : Below W4.heap.size W4 (x1.alloc (.cells #[.slice none 0 0] 34)) := hB1.alloc hB1.size _
     have hX2 := Blk.new x1 34 #[.slice none 0 0]
     generalize x1.alloc (.cells #[.slice none 0 0] 34) = x2 at *
     refine wpAnyS_one (i := 2) (by kernel_rfl) rfl rfl (fun K hK => ?_)
     go_wp2_with fail
     refine (HBU.out _ hB2).mono ?_
     rintro e x3 ⟨A, k, cap, rfl, hN, hb⟩
     have hB3 : Below W4.heap.size W4 x3 := hB2.trans (hb.mono hB2.size)
     have hxl : x1.heap.size < x2.heap.size := hX2.lt
     have hX3 := hX2.below hb hX2.lt
     refine hK _ _ (Or.inr (.of_below hB3)) ?_
     clear hK K hb
     ((try simp only [Act.put]); (try simp only [nrA]); (try simp only [nrB]); (try simp only [nrC]))
     have hS : (fun W => Keeps (fun b => b = b1 ∨ b = b2) W4 W) x3 := .of_below hB3
     (refine wpAnyS_take0 (i := 3) (v := ?_) rfl (by kernel_rfl) (by kernel_rfl) (fun _ _ _ h => h) (Or.inl ⟨by rfl, ?_⟩) (Or.inr hS) ?_; rotate_left; (intro w hSw; clear hSw; go_simp; (try with_reducible rfl)); ((try simp only [Act.put]); (try simp only [nrA]); (try simp only [nrB]); (try simp only [nrC])))
     (refine wpAnyS_take0 (i := 4) (v := ?_) rfl (by kernel_rfl) (by kernel_rfl) (fun _ _ _ h => h) (Or.inl ⟨by rfl, ?_⟩) (Or.inr hS) ?_; rotate_left; (intro w hSw; clear hSw; go_simp; (try with_reducible rfl)); ((try simp only [Act.put]); (try simp only [nrA]); (try simp only [nrB]); (try simp only [nrC])))
     (refine wpAnyS_take0 (i := 5) (v := ?_) rfl (by kernel_rfl) (by kernel_rfl) (fun _ _ _ h => h) (Or.inl ⟨by rfl, ?_⟩) (Or.inr hS) ?_; rotate_left; (intro w hSw; clear hSw; go_simp; (try with_reducible rfl)); ((try simp only [Act.put]); (try simp only [nrA]); (try simp only [nrB]); (try simp only [nrC])))
     clear hS
     refine wpAnyS_one (i := 7) (by kernel_rfl) rfl rfl (fun K hK => ?_)
     have c0 : x3.cell? ⟨x1.heap.size, 0, none⟩ = some (.slice none 0 0) := hX3.cell 0
     have g0 : x3.frozen? ⟨x1.heap.size, 0, none⟩ = false := hX3.frozen 0
     have cl : x1.heap.size < x3.heap.size := hX3.lt
     have HX := hid hX3
     clear hX3
     go_wp2_with fail
     refine hK _ _ (Or.inl rfl) ?_
     clear hK K
     ((try simp only [Act.put]); (try simp only [nrA]); (try simp only [nrB]); (try simp only [nrC]))
     refine wpAnyS_one (i := 8) (by kernel_rfl) rfl rfl (fun K hK => ?_)
     go_wp2_with fail
     refine hK _ _ (Or.inl rfl) ?_
     clear hK K
     ((try simp only [Act.put]); (try simp only [nrA]); (try simp only [nrB]); (try simp only [nrC]))
     refine wpAnyS_done (by kernel_rfl) ?_ _
     go_wp2_with fail
     go_meet
     exact ⟨x1.heap.size, A, k, cap, rfl, rfl, (HX.out.set_ 0 _), (Nodes.keep (Z := fun b => x2.heap.size ≤ b) hN ((Keeps.refl _ _).setCell (fun _ h => absurd hxl (Nat.not_lt.2 h)) _)).mono (fun _ _ => trivial), (hB3.setCell hB1.size _)⟩
   ·go_wp2_with fail
    refine hK _ _ (Or.inr (.of_below (hB0.alloc hB0.size _))) ?_
    clear hK K
    ((try simp only [Act.put]); (try simp only [nrA]); (try simp only [nrB]); (try simp only [nrC]))
    have hB1 : Below W4.heap.size W4 (x0.alloc (.cells #[.slice none 0 0] 34)) := hB0.alloc hB0.size _
    have hX1 := Blk.new x0 34 #[.slice none 0 0]
    generalize x0.alloc (.cells #[.slice none 0 0] 34) = x1 at *
    refine wpAnyS_one (i := 0) (by kernel_rfl) rfl rfl (fun K hK => ?_)
    go_wp2_with fail
    refine (test_any _ _ _ _).mono ?_
    rintro e x2 ⟨rfl, hb⟩
    have hB2 : Below W4.heap.size W4 x2 := hB1.trans (hb.mono hB1.size)
    have hX2 := hX1.below hb hX1.lt
    refine hK _ _ (Or.inr (.of_below hB2)) ?_
    clear hK K hb
    ((try simp only [Act.put]); (try simp only [nrA]); (try simp only [nrB]); (try simp only [nrC]))
    refine wpAnyS_one (i := 2) (by kernel_rfl) rfl rfl (fun K hK => ?_)
    go_wp2_with fail
    refine (HBU.out _ hB2).mono ?_
    rintro e x3 ⟨A, k, cap, rfl, hN, hb⟩
    have hB3 : Below W4.heap.size W4 x3 := hB2.trans (hb.mono hB2.size)
    have hxl : x0.heap.size < x2.heap.size := hX2.lt
    have hX3 := hX2.below hb hX2.lt
    refine hK _ _ (Or.inr (.of_below hB3)) ?_
    clear hK K hb
    ((try simp only [Act.put]); (try simp only [nrA]); (try simp only [nrB]); (try simp only [nrC]))
    have hS : (fun W => Keeps (fun b => b = b1 ∨ b = b2) W4 W) x3 := .of_below hB3
    (refine wpAnyS_take0 (i := 3) (v := ?_) rfl (by kernel_rfl) (by kernel_rfl) (fun _ _ _ h => h) (Or.inl ⟨by rfl, ?_⟩) (Or.inr hS) ?_; rotate_left; (intro w hSw; clear hSw; go_simp; (try with_reducible rfl)); ((try simp only [Act.put]); (try simp only [nrA]); (try simp only [nrB]); (try simp only [nrC])))
    (refine wpAnyS_take0 (i := 4) (v := ?_) rfl (by kernel_rfl) (by kernel_rfl) (fun _ _ _ h => h) (Or.inl ⟨by rfl, ?_⟩) (Or.inr hS) ?_; rotate_left; (intro w hSw; clear hSw; go_simp; (try with_reducible rfl)); ((try simp only [Act.put]); (try simp only [nrA]); (try simp only [nrB]); (try simp only [nrC])))
    (refine wpAnyS_take0 (i := 5) (v := ?_) rfl (by kernel_rfl) (by kernel_rfl) (fun _ _ _ h => h) (Or.inl ⟨by rfl, ?_⟩) (Or.inr hS) ?_; rotate_left; (intro w hSw; clear hSw; go_simp; (try with_reducible rfl)); ((try simp only [Act.put]); (try simp only [nrA]); (try simp only [nrB]); (try simp only [nrC])))
    clear hS
    refine wpAnyS_one (i := 7) (by kernel_rfl) rfl rfl (fun K hK => ?_)
    have c0 : x3.cell? ⟨x0.heap.size, 0, none⟩ = some (.slice none 0 0) := hX3.cell 0
    have g0 : x3.frozen? ⟨x0.heap.size, 0, none⟩ = false := hX3.frozen 0
    have cl : x0.heap.size < x3.heap.size := hX3.lt
    have HX := hid hX3
    clear hX3
    go_wp2_with fail
    refine hK _ _ (Or.inl rfl) ?_
    clear hK K
    ((try simp only [Act.put]); (try simp only [nrA]); (try simp only [nrB]); (try simp only [nrC]))
    refine wpAnyS_one (i := 8) (by kernel_rfl) rfl rfl (fun K hK => ?_)
    go_wp2_with fail
    refine hK _ _ (Or.inl rfl) ?_
    clear hK K
    ((try simp only [Act.put]); (try simp only [nrA]); (try simp only [nrB]); (try simp only [nrC]))
    refine wpAnyS_done (by kernel_rfl) ?_ _
    go_wp2_with fail
    go_meet
    exact ⟨x0.heap.size, A, k, cap, rfl, rfl, (HX.out.set_ 0 _), (Nodes.keep (Z := fun b => x2.heap.size ≤ b) hN ((Keeps.refl _ _).setCell (fun _ h => absurd hxl (Nat.not_lt.2 h)) _)).mono (fun _ _ => trivial), (hB3.setCell hB0.size _)⟩
  case rest =>
   obtain ⟨b5, A5, k5, cap5, rfl, rfl, hx, hn, hb⟩ := hcut
   rename World => W5
   replace HBD := hid (Nat.lt_of_lt_of_le HBD.out hb.size)
   replace HW := hid (HW.out.trans (hb.mono HW.out.size))
   replace HF := hid (HF.out.keep (Keeps.of_below hb))
   replace HD := hid (HD.out.below hb HD.out.lt)
   replace H2 := hid (H2.out.below hb H2.out.lt)
   replace H3 := hid (H3.out.below hb H3.out.lt)
   replace HR := hid (HR.out.below hb HR.out.lt)
   replace H4 := hid (H4.out.below hb H4.out.lt)
   replace N4 := hid (N4.out.keep (Keeps.of_below hb))
   have H5 := hid hx
   have N5 := hid hn
   clear hx hn hb HBU
   have HBU := hid (fun (W : World) (hW : Below W5.heap.size W5 W) (row : Nat) (hr : Blk W row 24 #[.int .i64 3, .string ⟨#[109, 105, 108, 105, 116, 97, 114, 121]⟩, .int .i64 1, .int .i64 1, .slice none 0 0, .int .i64 3, .string ⟨#[109, 105, 108, 105, 116, 97, 114, 121]⟩, .int .i64 1, .int .i64 0, .slice none 0 0]) => h_build (HF.out.keep (Keeps.of_below hW)) (Nat.lt_of_lt_of_le HBD.out hW.size) ((HTAB.out.on (HW.out.trans (hW.mono HW.out.size))).mono (Nat.le_trans HW.out.size hW.size)) (cs := [.int .i64 6, .string ⟨#[]⟩, .int .i64 0, .int .i64 0, .slice (some ⟨row, 0, none⟩) 2 2]) (g := [⟨true, 0, [], []⟩]) (n := 0) (fm_pair hr (I64.of (by decide) (by decide)) (by show (8 : Nat) ≤ _; omega) (I64.of (by decide) (by decide)) (I64.of (by decide) (by decide)) (by show (8 : Nat) ≤ _; omega) (I64.of (by decide) (by decide)) (I64.of (by decide) (by decide))) (fun b hb => hb ▸ hr.lt) (by decide) h_b3)
   go_upto_region 6 with fail
   go_cut [8, 9] from 38 to 46 (fun vp ve wx => ∃ bx A k cap, vp = .pointer (some ⟨bx, 0, none⟩) ∧ ve = .int .i64 0 ∧ Blk wx bx 34 #[.slice A k cap] ∧ Nodes (fun _ => True) wx (.slice A k cap) ([⟨true, 0, [], []⟩]) ∧ Below W5.heap.size W5 wx)
   case first =>
    have HC := hid (fun (W : World) (hW : Keeps (fun b => b = b1 ∨ b = b2) W5 W) => (show W.cell? ⟨b1, 0, none⟩ = some (.slice D 2 dcap) ∧ W.cell? ⟨b2, 0, none⟩ = some (.int .i64 3) ∧ W.cell? ⟨b2, 1, none⟩ = some (.string ⟨#[109, 105, 108, 105, 116, 97, 114, 121]⟩) ∧ W.cell? ⟨b2, 2, none⟩ = some (.int .i64 1) ∧ W.cell? ⟨b2, 3, none⟩ = some (.int .i64 1) ∧ W.cell? ⟨b2, 4, none⟩ = some (.slice none 0 0) from by
     have hb := H2.out.keep hW (Or.inr rfl)
     exact ⟨(HD.out.keep hW (Or.inl rfl)).cell 0, hb.cell 0, hb.cell 1, hb.cell 2, hb.cell 3, hb.cell 4⟩))
    refine wp_region_S 10 (fun W => Keeps (fun b => b = b1 ∨ b = b2) W5 W) (by kernel_rfl) ?_
    have hB0 : Below W5.heap.size W5 W5.drew := (Below.refl _ _).drew
    generalize W5.drew = x0 at *
    have hS : (fun W => Keeps (fun b => b = b1 ∨ b = b2) W5 W) x0 := .of_below hB0
    (refine wpAnyS_take (i := 0) (v := ?_) rfl (by kernel_rfl) (by kernel_rfl) (fun _ _ _ h => h) (Or.inl ⟨by rfl, ?_⟩) hS ?_; rotate_left; (intro w hSw; have hkw := hSw; obtain ⟨hd, h0, h1, h2, h3, h4⟩ := HC.out _ hkw; go_simp; (try with_reducible rfl)); ((try simp only [Act.put]); (try simp only [nrA]); (try simp only [nrB]); (try simp only [nrC])))
    (refine wpAnyS_take (i := 4) (v := ?_) rfl (by kernel_rfl) (by kernel_rfl) (fun _ _ _ h => h) (Or.inl ⟨by rfl, ?_⟩) hS ?_; rotate_left; (intro w hSw; have hkw := hSw; obtain ⟨hd, h0, h1, h2, h3, h4⟩ := HC.out _ hkw; go_simp; (try with_reducible rfl)); ((try simp only [Act.put]); (try simp only [nrA]); (try simp only [nrB]); (try simp only [nrC])))
    clear hS
    refine wpAnyS_two (i := 1) (j := 9) (by kernel_rfl) rfl rfl rfl rfl (fun K hK => ?_) (fun K hK => ?_)
    ·go_wp2_with fail
     refine (test_any _ _ _ _).mono ?_
     rintro e x1 ⟨rfl, hb⟩
     have hB1 : Below W5.heap.size W5 x1 := hB0.trans (hb.mono hB0.size)
     refine hK _ _ (Or.inr (.of_below hB1)) ?_
     clear hK K hb
     ((try simp only [Act.put]); (try simp only [nrA]); (try simp only [nrB]); (try simp only [nrC]))
     refine wpAnyS_two (i := 2) (j := 9) (by kernel_rfl) rfl rfl rfl rfl (fun K hK => ?_) (fun K hK => ?_)
     ·go_wp2_with fail
      refine hK _ _ (Or.inr (.of_below (hB1.alloc hB1.size _))) ?_
      clear hK K
      ((try simp only [Act.put]); (try simp only [nrA]); (try simp only [nrB]); (try simp only [nrC]))
      have hB2 : Below W5.heap.size W5 (x1.alloc (.cells #[.int .i64 3, .string ⟨#[109, 105, 108, 105, 116, 97, 114, 121]⟩, .int .i64 1, .int .i64 1, .slice none 0 0, .int .i64 3, .string ⟨#[109, 105, 108, 105, 116, 97, 114, 121]⟩, .int .i64 1, .int .i64 0, .slice none 0 0] 24)) := hB1.alloc hB1.size _
      have hR2 := Blk.new x1 24 #[.int .i64 3, .string ⟨#[109, 105, 108, 105, 116, 97, 114, 121]⟩, .int .i64 1, .int .i64 1, .slice none 0 0, .int .i64 3, .string ⟨#[109, 105, 108, 105, 116, 97, 114, 121]⟩, .int .i64 1, .int .i64 0, .slice none 0 0]
      generalize x1.alloc (.cells #[.int .i64 3, .string ⟨#[109, 105, 108, 105, 116, 97, 114, 121]⟩, .int .i64 1, .int .i64 1, .slice none 0 0, .int .i64 3, .string ⟨#[109, 105, 108, 105, 116, 97, 114, 121]⟩, .int .i64 1, .int .i64 0, .slice none 0 0] 24) = x2 at *
      have hS : (fun W => Keeps (fun b => b = b1 ∨ b = b2) W5 W) x2 := .of_below hB2
      (refine wpAnyS_take0 (i := 3) (v := ?_) rfl (by kernel_rfl) (by kernel_rfl) (fun _ _ _ h => h) (Or.inl ⟨by rfl, ?_⟩) (Or.inr hS) ?_; rotate_left; (intro w hSw; clear hSw; go_simp; (try with_reducible rfl)); ((try simp only [Act.put]); (try simp only [nrA]); (try simp only [nrB]); (try simp only [nrC])))
      clear hS
      refine wpAnyS_two (i := 5) (j := 9) (by kernel_rfl) rfl rfl rfl rfl (fun K hK => ?_) (fun K hK => ?_)
      ·go_wp2_with fail
       refine (HBU.out _ hB2 _ hR2).mono ?_
       rintro e x3 ⟨A, k, cap, rfl, hN, hb⟩
       have hB3 : Below W5.heap.size W5 x3 := hB2.trans (hb.mono hB2.size)
       refine hK _ _ (Or.inr (.of_below hB3)) ?_
       clear hK K hb
       ((try simp only [Act.put]); (try simp only [nrA]); (try simp only [nrB]); (try simp only [nrC]))
       have hS : (fun W => Keeps (fun b => b = b1 ∨ b = b2) W5 W) x3 := .of_below hB3
       (refine wpAnyS_take0 (i := 6) (v := ?_) rfl (by kernel_rfl) (by kernel_rfl) (fun _ _ _ h => h) (Or.inl ⟨by rfl, ?_⟩) (Or.inr hS) ?_; rotate_left; (intro w hSw; clear hSw; go_simp; (try with_reducible rfl)); ((try simp only [Act.put]); (try simp only [nrA]); (try simp only [nrB]); (try simp only [nrC])))
       (refine wpAnyS_take0 (i := 7) (v := ?_) rfl (by kernel_rfl) (by kernel_rfl) (fun _ _ _ h => h) (Or.inl ⟨by rfl, ?_⟩) (Or.inr hS) ?_; rotate_left; (intro w hSw; clear hSw; go_simp; (try with_reducible rfl)); ((try simp only [Act.put]); (try simp only [nrA]); (try simp only [nrB]); (try simp only [nrC])))
       (refine wpAnyS_take0 (i := 8) (v := ?_) rfl (by kernel_rfl) (by kernel_rfl) (fun _ _ _ h => h) (Or.inl ⟨by rfl, ?_⟩) (Or.inr hS) ?_; rotate_left; (intro w hSw; clear hSw; go_simp; (try with_reducible rfl)); ((try simp only [Act.put]); (try simp only [nrA]); (try simp only [nrB]); (try simp only [nrC])))
       clear hS
       refine wpAnyS_one (i := 9) (by kernel_rfl) rfl rfl (fun K hK => ?_)
       go_wp2_with fail
       refine hK _ _ (Or.inr (.of_below (hB3.alloc hB3.size _))) ?_
       clear hK K
       ((try simp only [Act.put]); (try simp only [nrA]); (try simp only [nrB]); (try simp only [nrC]))
       have hB4 : Below W5.heap.size W5 (x3.alloc (.cells #[.slice none 0 0] 34)) := hB3.alloc hB3.size _
       have hX4 := Blk.new x3 34 #[.slice none 0 0]
       have hKA : Keeps (fun b => x2.heap.size ≤ b) x3 (x3.alloc (.cells #[.slice none 0 0] 34)) := (Keeps.refl _ _).alloc _
       generalize x3.alloc (.cells #[.slice none 0 0] 34) = x4 at *
       refine wpAnyS_one (i := 10) (by kernel_rfl) rfl rfl (fun K hK => ?_)
       have c0 : x4.cell? ⟨x3.heap.size, 0, none⟩ = some (.slice none 0 0) := hX4.cell 0
       have g0 : x4.frozen? ⟨x3.heap.size, 0, none⟩ = false := hX4.frozen 0
       have cl : x3.heap.size < x4.heap.size := hX4.lt
       have HX := hid hX4
       clear hX4
       go_wp2_with fail
       refine hK _ _ (Or.inl rfl) ?_
       clear hK K
       ((try simp only [Act.put]); (try simp only [nrA]); (try simp only [nrB]); (try simp only [nrC]))
       refine wpAnyS_one (i := 11) (by kernel_rfl) rfl rfl (fun K hK => ?_)
       go_wp2_with fail
       refine hK _ _ (Or.inl rfl) ?_
       clear hK K
       ((try simp only [Act.put]); (try simp only [nrA]); (try simp only [nrB]); (try simp only [nrC]))
       refine wpAnyS_done (by kernel_rfl) ?_ _
       go_wp2_with fail
       go_meet
       exact ⟨x3.heap.size, A, k, cap, rfl, rfl, (HX.out.set_ 0 _), (Nodes.keep (Z := fun b => x2.heap.size ≤ b) hN (hKA.setCell (fun h => absurd h (Nat.lt_irrefl _)) _)).mono (fun _ _ => trivial), (hB4.setCell hB3.size _)⟩
      ·go_wp2_with fail
       refine hK _ _ (Or.inr (.of_below (hB2.alloc hB2.size _))) ?_
       clear hK K
       ((try simp only [Act.put]); (try simp only [nrA]); (try simp only [nrB]); (try simp only [nrC]))
       have hB3 : Below W5.heap.size W5 (x2.alloc (.cells #[.slice none 0 0] 34)) := hB2.alloc hB2.size _
       have hX3 := Blk.new x2 34 #[.slice none 0 0]
       have hR3 := hR2.alloc (.cells #[.slice none 0 0] 34)
       have hne : x1.heap.size ≠ x2.heap.size := Nat.ne_of_lt hR2.lt
       generalize x2.alloc (.cells #[.slice none 0 0] 34) = x3 at *
       refine wpAnyS_one (i := 5) (by kernel_rfl) rfl rfl (fun K hK => ?_)
       go_wp2_with fail
       refine (HBU.out _ hB3 _ hR3).mono ?_
       rintro e x4 ⟨A, k, cap, rfl, hN, hb⟩
       have hB4 : Below W5.heap.size W5 x4 := hB3.trans (hb.mono hB3.size)
       have hxl : x2.heap.size < x3.heap.size := hX3.lt
       have hX4 := hX3.below hb hX3.lt
       refine hK _ _ (Or.inr (.of_below hB4)) ?_
       clear hK K hb
       ((try simp only [Act.put]); (try simp only [nrA]); (try simp only [nrB]); (try simp only [nrC]))
       have hS : (fun W => Keeps (fun b => b = b1 ∨ b = b2) W5 W) x4 := .of_below hB4
       (refine wpAnyS_take0 (i := 6) (v := ?_) rfl (by kernel_rfl) (by kernel_rfl) (fun _ _ _ h => h) (Or.inl ⟨by rfl, ?_⟩) (Or.inr hS) ?_; rotate_left; (intro w hSw; clear hSw; go_simp; (try with_reducible rfl)); ((try simp only [Act.put]); (try simp only [nrA]); (try simp only [nrB]); (try simp only [nrC])))
       (refine wpAnyS_take0 (i := 7) (v := ?_) rfl (by kernel_rfl) (by kernel_rfl) (fun _ _ _ h => h) (Or.inl ⟨by rfl, ?_⟩) (Or.inr hS) ?_; rotate_left; (intro w hSw; clear hSw; go_simp; (try with_reducible rfl)); ((try simp only [Act.put]); (try simp only [nrA]); (try simp only [nrB]); (try simp only [nrC])))
       (refine wpAnyS_take0 (i := 8) (v := ?_) rfl (by kernel_rfl) (by kernel_rfl) (fun _ _ _ h => h) (Or.inl ⟨by rfl, ?_⟩) (Or.inr hS) ?_; rotate_left; (intro w hSw; clear hSw; go_simp; (try with_reducible rfl)); ((try simp only [Act.put]); (try simp only [nrA]); (try simp only [nrB]); (try simp only [nrC])))
       clear hS
       refine wpAnyS_one (i := 10) (by kernel_rfl) rfl rfl (fun K hK => ?_)
       have c0 : x4.cell? ⟨x2.heap.size, 0, none⟩ = some (.slice none 0 0) := hX4.cell 0
       have g0 : x4.frozen? ⟨x2.heap.size, 0, none⟩ = false := hX4.frozen 0
       have cl : x2.heap.size < x4.heap.size := hX4.lt
       have HX := hid hX4
       clear hX4
       go_wp2_with fail
       refine hK _ _ (Or.inl rfl) ?_
       clear hK K
       ((try simp only [Act.put]); (try simp only [nrA]); (try simp only [nrB]); (try simp only [nrC]))
       refine wpAnyS_one (i := 11) (by kernel_rfl) rfl rfl (fun K hK => ?_)
       go_wp2_with fail
       refine hK _ _ (Or.inl rfl) ?_
       clear hK K
       ((try simp only [Act.put]); (try simp only [nrA]); (try simp only [nrB]); (try simp only [nrC]))
       refine wpAnyS_done (by kernel_rfl) ?_ _
       go_wp2_with fail
       go_meet
       exact ⟨x2.heap.size, A, k, cap, rfl, rfl, (HX.out.set_ 0 _), (Nodes.keep (Z := fun b => x3.heap.size ≤ b) hN ((Keeps.refl _ _).setCell (fun _ h => absurd hxl (Nat.not_lt.2 h)) _)).mono (fun _ _ => trivial), (hB4.setCell hB2.size _)⟩
     ·go_wp2_with fail
      refine hK _ _ (Or.inr (.of_below (hB1.alloc hB1.size _))) ?_
      clear hK K
      ((try simp only [Act.put]); (try simp only [nrA]); (try simp only [nrB]); (try simp only [nrC]))
      have hB2 : Below W5.heap.size W5 (x1.alloc (.cells #[.slice none 0 0] 34)) := hB1.alloc hB1.size _
      have hX2 := Blk.new x1 34 #[.slice none 0 0]
      generalize x1.alloc (.cells #[.slice none 0 0] 34) = x2 at *
      refine wpAnyS_one (i := 2) (by kernel_rfl) rfl rfl (fun K hK => ?_)
      go_wp2_with fail
      refine hK _ _ (Or.inr (.of_below (hB2.alloc hB2.size _))) ?_
      clear hK K
      ((try simp only [Act.put]); (try simp only [nrA]); (try simp only [nrB]); (try simp only [nrC]))
      have hB3 : Below W5.heap.size W5 (x2.alloc (.cells #[.int .i64 3, .string ⟨#[109, 105, 108, 105, 116, 97, 114, 121]⟩, .int .i64 1, .int .i64 1, .slice none 0 0, .int .i64 3, .string ⟨#[109, 105, 108, 105, 116, 97, 114, 121]⟩, .int .i64 1, .int .i64 0, .slice none 0 0] 24)) := hB2.alloc hB2.size _
      have hX3 := hX2.alloc (.cells #[.int .i64 3, .string ⟨#[109, 105, 108, 105, 116, 97, 114, 121]⟩, .int .i64 1, .int .i64 1, .slice none 0 0, .int .i64 3, .string ⟨#[109, 105, 108, 105, 116, 97, 114, 121]⟩, .int .i64 1, .int .i64 0, .slice none 0 0] 24)
      have hR3 := Blk.new x2 24 #[.int .i64 3, .string ⟨#[109, 105, 108, 105, 116, 97, 114, 121]⟩, .int .i64 1, .int .i64 1, .slice none 0 0, .int .i64 3, .string ⟨#[109, 105, 108, 105, 116, 97, 114, 121]⟩, .int .i64 1, .int .i64 0, .slice none 0 0]
      have hne : x2.heap.size ≠ x1.heap.size := Nat.ne_of_gt hX2.lt
      generalize x2.alloc (.cells #[.int .i64 3, .string ⟨#[109, 105, 108, 105, 116, 97, 114, 121]⟩, .int .i64 1, .int .i64 1, .slice none 0 0, .int .i64 3, .string ⟨#[109, 105, 108, 105, 116, 97, 114, 121]⟩, .int .i64 1, .int .i64 0, .slice none 0 0] 24) = x3 at *
      have hS : (fun W => Keeps (fun b => b = b1 ∨ b = b2) W5 W) x3 := .of_below hB3
      (refine wpAnyS_take0 (i := 3) (v := ?_) rfl (by kernel_rfl) (by kernel_rfl) (fun _ _ _ h => h) (Or.inl ⟨by rfl, ?_⟩) (Or.inr hS) ?_; rotate_left; (intro w hSw; clear hSw; go_simp; (try with_reducible rfl)); ((try simp only [Act.put]); (try simp only [nrA]); (try simp only [nrB]); (try simp only [nrC])))
      clear hS
      refine wpAnyS_one (i := 5) (by kernel_rfl) rfl rfl (fun K hK => ?_)
      go_wp2_with fail
      refine (HBU.out _ hB3 _ hR3).mono ?_
      rintro e x4 ⟨A, k, cap, rfl, hN, hb⟩
      have hB4 : Below W5.heap.size W5 x4 := hB3.trans (hb.mono hB3.size)
      have hxl : x1.heap.size < x3.heap.size := hX3.lt
      have hX4 := hX3.below hb hX3.lt
      refine hK _ _ (Or.inr (.of_below hB4)) ?_
      clear hK K hb
      ((try simp only [Act.put]); (try simp only [nrA]); (try simp only [nrB]); (try simp only [nrC]))
      have hS : (fun W => Keeps (fun b => b = b1 ∨ b = b2) W5 W) x4 := .of_below hB4
      (refine wpAnyS_take0 (i := 6) (v := ?_) rfl (by kernel_rfl) (by kernel_rfl) (fun _ _ _ h => h) (Or.inl ⟨by rfl, ?_⟩) (Or.inr hS) ?_; rotate_left; (intro w hSw; clear hSw; go_simp; (try with_reducible rfl)); ((try simp only [Act.put]); (try simp only [nrA]); (try simp only [nrB]); (try simp only [nrC])))
      (refine wpAnyS_take0 (i := 7) (v := ?_) rfl (by kernel_rfl) (by kernel_rfl) (fun _ _ _ h => h) (Or.inl ⟨by rfl, ?_⟩) (Or.inr hS) ?_; rotate_left; (intro w hSw; clear hSw; go_simp; (try with_reducible rfl)); ((try simp only [Act.put]); (try simp only [nrA]); (try simp only [nrB]); (try simp only [nrC])))
      (refine wpAnyS_take0 (i := 8) (v := ?_) rfl (by kernel_rfl) (by kernel_rfl) (fun _ _ _ h => h) (Or.inl ⟨by rfl, ?_⟩) (Or.inr hS) ?_; rotate_left; (intro w hSw; clear hSw; go_simp; (try with_reducible rfl)); ((try simp only [Act.put]); (try simp only [nrA]); (try simp only [nrB]); (try simp only [nrC])))
      clear hS
      refine wpAnyS_one (i := 10) (by kernel_rfl) rfl rfl (fun K hK => ?_)
      have c0 : x4.cell? ⟨x1.heap.size, 0, none⟩ = some (.slice none 0 0) := hX4.cell 0
      have g0 : x4.frozen? ⟨x1.heap.size, 0, none⟩ = false := hX4.frozen 0
      have cl : x1.heap.size < x4.heap.size := hX4.lt
      have HX := hid hX4
      clear hX4
      go_wp2_with fail
      refine hK _ _ (Or.inl rfl) ?_
      clear hK K
      ((try simp only [Act.put]); (try simp only [nrA]); (try simp only [nrB]); (try simp only [nrC]))
      refine wpAnyS_one (i := 11) (by kernel_rfl) rfl rfl (fun K hK => ?_)
      go_wp2_with fail
      refine hK _ _ (Or.inl rfl) ?_
      clear hK K
      ((try simp only [Act.put]); (try simp only [nrA]); (try simp only [nrB]); (try simp only [nrC]))
      refine wpAnyS_done (by kernel_rfl) ?_ _
      go_wp2_with fail
      go_meet
      exact ⟨x1.heap.size, A, k, cap, rfl, rfl, (HX.out.set_ 0 _), (Nodes.keep (Z := fun b => x3.heap.size ≤ b) hN ((Keeps.refl _ _).setCell (fun _ h => absurd hxl (Nat.not_lt.2 h)) _)).mono (fun _ _ => trivial), (hB4.setCell hB1.size _)⟩
    ·go_wp2_with fail
     refine hK _ _ (Or.inr (.of_below (hB0.alloc hB0.size _))) ?_
     clear hK K
     ((try simp only [Act.put]); (try simp only [nrA]); (try simp only [nrB]); (try simp only [nrC]))
     have hB1 : Below W5.heap.size W5 (x0.alloc (.cells #[.slice none 0 0] 34)) := hB0.alloc hB0.size _
     have hX1 := Blk.new x0 34 #[.slice none 0 0]
     generalize x0.alloc (.cells #[.slice none 0 0] 34) = x1 at *
     refine wpAnyS_one (i := 1) (by kernel_rfl) rfl rfl (fun K hK => ?_)
     go_wp2_with fail
     refine (test_any _ _ _ _).mono ?_
     rintro e x2 ⟨rfl, hb⟩
     have hB2 : Below W5.heap.size W5 x2 := hB1.trans (hb.mono hB1.size)
     have hX2 := hX1.below hb hX1.lt
     refine hK _ _ (Or.inr (.of_below hB2)) ?_
     clear hK K hb
     ((try simp only [Act.put]); (try simp only [nrA]); (try simp only [nrB]); (try simp only [nrC]))
     refine wpAnyS_one (i := 2) (by kernel_rfl) rfl rfl (fun K hK => ?_)
     go_wp2_with fail
     refine hK _ _ (Or.inr (.of_below (hB2.alloc hB2.size _))) ?_
     clear hK K
     ((try simp only [Act.put]); (try simp only [nrA]); (try simp only [nrB]); (try simp only [nrC]))
     have hB3 : Below W5.heap.size W5 (x2.alloc (.cells #[.int .i64 3, .string ⟨#[109, 105, 108, 105, 116, 97, 114, 121]⟩, .int .i64 1, .int .i64 1, .slice none 0 0, .int .i64 3, .string ⟨#[109, 105, 108, 105, 116, 97, 114, 121]⟩, .int .i64 1, .int .i64 0, .slice none 0 0] 24)) := hB2.alloc hB2.size _
     have hX3 := hX2.alloc (.cells #[.int .i64 3, .string ⟨#[109, 105, 108, 105, 116, 97, 114, 121]⟩, .int .i64 1, .int .i64 1, .slice none 0 0, .int .i64 3, .string ⟨#[109, 105, 108, 105, 116, 97, 114, 121]⟩, .int .i64 1, .int .i64 0, .slice none 0 0] 24)
     have hR3 := Blk.new x2 24 #[.int .i64 3, .string ⟨#[109, 105, 108, 105, 116, 97, 114, 121]⟩, .int .i64 1, .int .i64 1, .slice none 0 0, .int .i64 3, .string ⟨#[109, 105, 108, 105, 116, 97, 114, 121]⟩, .int .i64 1, .int .i64 0, .slice none 0 0]
     have hne : x2.heap.size ≠ x0.heap.size := Nat.ne_of_gt hX2.lt
     generalize x2.alloc (.cells #[.int .i64 3, .string ⟨#[109, 105, 108, 105, 116, 97, 114, 121]⟩, .int .i64 1, .int .i64 1, .slice none 0 0, .int .i64 3, .string ⟨#[109, 105, 108, 105, 116, 97, 114, 121]⟩, .int .i64 1, .int .i64 0, .slice none 0 0] 24) = x3 at *
     have hS : (fun W => Keeps (fun b => b = b1 ∨ b = b2) W5 W) x3 := .of_below hB3
     (refine wpAnyS_take0 (i := 3) (v := ?_) rfl (by kernel_rfl) (by kernel_rfl) (fun _ _ _ h => h) (Or.inl ⟨by rfl, ?_⟩) (Or.inr hS) ?_; rotate_left; (intro w hSw; clear hSw; go_simp; (try with_reducible rfl)); ((try simp only [Act.put]); (try simp only [nrA]); (try simp only [nrB]); (try simp only [nrC])))
     clear hS
     refine wpAnyS_one (i := 5) (by kernel_rfl) rfl rfl (fun K hK => ?_)
     go_wp2_with fail
     refine (HBU.out _ hB3 _ hR3).mono ?_
     rintro e x4 ⟨A, k, cap, rfl, hN, hb⟩
     have hB4 : Below W5.heap.size W5 x4 := hB3.trans (hb.mono hB3.size)
     have hxl : x0.heap.size < x3.heap.size := hX3.lt
     have hX4 := hX3.below hb hX3.lt
     refine hK _ _ (Or.inr (.of_below hB4)) ?_
     clear hK K hb
     ((try simp only [Act.put]); (try simp only [nrA]); (try simp only [nrB]); (try simp only [nrC]))
     have hS : (fun W => Keeps (fun b => b = b1 ∨ b = b2) W5 W) x4 := .of_below hB4
     (refine wpAnyS_take0 (i := 6) (v := ?_) rfl (by kernel_rfl) (by kernel_rfl) (fun _ _ _ h => h) (Or.inl ⟨by rfl, ?_⟩) (Or.inr hS) ?_; rotate_left; (intro w hSw; clear hSw; go_simp; (try with_reducible rfl)); ((try simp only [Act.put]); (try simp only [nrA]); (try simp only [nrB]); (try simp only [nrC])))
     (refine wpAnyS_take0 (i := 7) (v := ?_) rfl (by kernel_rfl) (by kernel_rfl) (fun _ _ _ h => h) (Or.inl ⟨by rfl, ?_⟩) (Or.inr hS) ?_; rotate_left; (intro w hSw; clear hSw; go_simp; (try with_reducible rfl)); ((try simp only [Act.put]); (try simp only [nrA]); (try simp only [nrB]); (try simp only [nrC])))
     (refine wpAnyS_take0 (i := 8) (v := ?_) rfl (by kernel_rfl) (by kernel_rfl) (fun _ _ _ h => h) (Or.inl ⟨by rfl, ?_⟩) (Or.inr hS) ?_; rotate_left; (intro w hSw; clear hSw; go_simp; (try with_reducible rfl)); ((try simp only [Act.put]); (try simp only [nrA]); (try simp only [nrB]); (try simp only [nrC])))
     clear hS
     refine wpAnyS_one (i := 10) (by kernel_rfl) rfl rfl (fun K hK => ?_)
     have c0 : x4.cell? ⟨x0.heap.size, 0, none⟩ = some (.slice none 0 0) := hX4.cell 0
     have g0 : x4.frozen? ⟨x0.heap.size, 0, none⟩ = false := hX4.frozen 0
     have cl : x0.heap.size < x4.heap.size := hX4.lt
     have HX := hid hX4
     clear hX4
     go_wp2_with fail
     refine hK _ _ (Or.inl rfl) ?_
     clear hK K
     ((try simp only [Act.put]); (try simp only [nrA]); (try simp only [nrB]); (try simp only [nrC]))
     refine wpAnyS_one (i := 11) (by kernel_rfl) rfl rfl (fun K hK => ?_)
     go_wp2_with fail
     refine hK _ _ (Or.inl rfl) ?_
     clear hK K
     ((try simp only [Act.put]); (try simp only [nrA]); (try simp only [nrB]); (try simp only [nrC]))
     refine wpAnyS_done (by kernel_rfl) ?_ _
     go_wp2_with fail
     go_meet
     exact ⟨x0.heap.size, A, k, cap, rfl, rfl, (HX.out.set_ 0 _), (Nodes.keep (Z := fun b => x3.heap.size ≤ b) hN ((Keeps.refl _ _).setCell (fun _ h => absurd hxl (Nat.not_lt.2 h)) _)).mono (fun _ _ => trivial), (hB4.setCell hB0.size _)⟩
   case rest =>
    obtain ⟨b6, A6, k6, cap6, rfl, rfl, hx, hn, hb⟩ := hcut
    rename World => W6
    replace HBD := hid (Nat.lt_of_lt_of_le HBD.out hb.size)
    replace HW := hid (HW.out.trans (hb.mono HW.out.size))
    replace HF := hid (HF.out.keep (Keeps.of_below hb))
    replace HD := hid (HD.out.below hb HD.out.lt)
    replace H2 := hid (H2.out.below hb H2.out.lt)
    replace H3 := hid (H3.out.below hb H3.out.lt)
    replace HR := hid (HR.out.below hb HR.out.lt)
    replace H4 := hid (H4.out.below hb H4.out.lt)
    replace N4 := hid (N4.out.keep (Keeps.of_below hb))
    replace H5 := hid (H5.out.below hb H5.out.lt)
    replace N5 := hid (N5.out.keep (Keeps.of_below hb))
    have H6 := hid hx
    have N6 := hid hn
    clear hx hn hb HBU
    have HBU := hid (fun (W : World) (hW : Below W6.heap.size W6 W) => h_build (HF.out.keep (Keeps.of_below hW)) (Nat.lt_of_lt_of_le HBD.out hW.size) ((HTAB.out.on (HW.out.trans (hW.mono HW.out.size))).mono (Nat.le_trans HW.out.size hW.size)) (cs := [.int .i64 3, .string ⟨#[119, 101, 105, 103, 104, 116]⟩, .int .i64 5, .int .i64 150, .slice none 0 0]) (g := [⟨false, 0, [], []⟩]) (n := 0) (fm_leaf (fun _ => False) W (nm := ⟨#[119, 101, 105, 103, 104, 116]⟩) (c := 5) (n := 150) (by show (6 : Nat) ≤ _; omega) (I64.of (by decide) (by decide)) (I64.of (by decide) (by decide))) (fun b hb => hb.elim) (by decide) h_b4)
    go_upto_region 7 with fail
    go_cut [10, 11] from 47 to 52 (fun vp ve wx => ∃ bx A k cap, vp = .pointer (some ⟨bx, 0, none⟩) ∧ ve = .int .i64 0 ∧ Blk wx bx 34 #[.slice A k cap] ∧ Nodes (fun _ => True) wx (.slice A k cap) ([⟨false, 0, [], []⟩]) ∧ Below W6.heap.size W6 wx)
    case first =>
     have HC := hid (fun (W : World) (hW : Keeps (fun b => b = b1 ∨ b = b2) W6 W) => (show W.cell? ⟨b1, 0, none⟩ = some (.slice D 2 dcap) ∧ W.cell? ⟨b2, 0, none⟩ = some (.int .i64 3) ∧ W.cell? ⟨b2, 1, none⟩ = some (.string ⟨#[109, 105, 108, 105, 116, 97, 114, 121]⟩) ∧ W.cell? ⟨b2, 2, none⟩ = some (.int .i64 1) ∧ W.cell? ⟨b2, 3, none⟩ = some (.int .i64 1) ∧ W.cell? ⟨b2, 4, none⟩ = some (.slice none 0 0) from by
      have hb := H2.out.keep hW (Or.inr rfl)
      exact ⟨(HD.out.keep hW (Or.inl rfl)).cell 0, hb.cell 0, hb.cell 1, hb.cell 2, hb.cell 3, hb.cell 4⟩))
     refine wp_region_S 7 (fun W => Keeps (fun b => b = b1 ∨ b = b2) W6 W) (by kernel_rfl) ?_
     have hB0 : Below W6.heap.size W6 W6.drew := (Below.refl _ _).drew
     generalize W6.drew = x0 at *
     have hS : (fun W => Keeps (fun b => b = b1 ∨ b = b2) W6 W) x0 := .of_below hB0
     (refine wpAnyS_take (i := 1) (v := ?_) rfl (by kernel_rfl) (by kernel_rfl) (fun _ _ _ h => h) (Or.inl ⟨by rfl, ?_⟩) hS ?_; rotate_left; (intro w hSw; have hkw := hSw; obtain ⟨hd, h0, h1, h2, h3, h4⟩ := HC.out _ hkw; go_simp; (try with_reducible rfl)); ((try simp only [Act.put]); (try simp only [nrA]); (try simp only [nrB]); (try simp only [nrC])))
     clear hS
     refine wpAnyS_two (i := 0) (j := 6) (by kernel_rfl) rfl rfl rfl rfl (fun K hK => ?_) (fun K hK => ?_)
     ·go_wp2_with fail
      refine (test_any _ _ _ _).mono ?_
      rintro e x1 ⟨rfl, hb⟩
      have hB1 : Below W6.heap.size W6 x1 := hB0.trans (hb.mono hB0.size)
      refine hK _ _ (Or.inr (.of_below hB1)) ?_
      clear hK K hb
      ((try simp only [Act.put]); (try simp only [nrA]); (try simp only [nrB]); (try simp only [nrC]))
      refine wpAnyS_two (i := 2) (j := 6) (by kernel_rfl) rfl rfl rfl rfl (fun K hK => ?_) (fun K hK => ?_)
      ·go_wp2_with fail
       refine (HBU.out _ hB1).mono ?_
       rintro e x2 ⟨A, k, cap, rfl, hN, hb⟩
       have hB2 : Below W6.heap.size W6 x2 := hB1.trans (hb.mono hB1.size)
       refine hK _ _ (Or.inr (.of_below hB2)) ?_
       clear hK K hb
       ((try simp only [Act.put]); (try simp only [nrA]); (try simp only [nrB]); (try simp only [nrC]))
       have hS : (fun W => Keeps (fun b => b = b1 ∨ b = b2) W6 W) x2 := .of_below hB2
       (refine wpAnyS_take0 (i := 3) (v := ?_) rfl (by kernel_rfl) (by kernel_rfl) (fun _ _ _ h => h) (Or.inl ⟨by rfl, ?_⟩) (Or.inr hS) ?_; rotate_left; (intro w hSw; clear hSw; go_simp; (try with_reducible rfl)); ((try simp only [Act.put]); (try simp only [nrA]); (try simp only [nrB]); (try simp only [nrC])))
       (refine wpAnyS_take0 (i := 4) (v := ?_) rfl (by kernel_rfl) (by kernel_rfl) (fun _ _ _ h => h) (Or.inl ⟨by rfl, ?_⟩) (Or.inr hS) ?_; rotate_left; (intro w hSw; clear hSw; go_simp; (try with_reducible rfl)); ((try simp only [Act.put]); (try simp only [nrA]); (try simp only [nrB]); (try simp only [nrC])))
       (refine wpAnyS_take0 (i := 5) (v := ?_) rfl (by kernel_rfl) (by kernel_rfl) (fun _ _ _ h => h) (Or.inl ⟨by rfl, ?_⟩) (Or.inr hS) ?_; rotate_left; (intro w hSw; clear hSw; go_simp; (try with_reducible rfl)); ((try simp only [Act.put]); (try simp only [nrA]); (try simp only [nrB]); (try simp only [nrC])))
       clear hS
       refine wpAnyS_one (i := 6) (by kernel_rfl) rfl rfl (fun K hK => ?_)
       go_wp2_with fail
       refine hK _ _ (Or.inr (.of_below (hB2.alloc hB2.size _))) ?_
       clear hK K
       ((try simp only [Act.put]); (try simp only [nrA]); (try simp only [nrB]); (try simp only [nrC]))
       have hB3 : Below W6.heap.size W6 (x2.alloc (.cells #[.slice none 0 0] 34)) := hB2.alloc hB2.size _
       have hX3 := Blk.new x2 34 #[.slice none 0 0]
       have hKA : Keeps (fun b => x1.heap.size ≤ b) x2 (x2.alloc (.cells #[.slice none 0 0] 34)) := (Keeps.refl _ _).alloc _
       generalize x2.alloc (.cells #[.slice none 0 0] 34) = x3 at *
       refine wpAnyS_one (i := 7) (by kernel_rfl) rfl rfl (fun K hK => ?_)
       have c0 : x3.cell? ⟨x2.heap.size, 0, none⟩ = some (.slice none 0 0) := hX3.cell 0
       have g0 : x3.frozen? ⟨x2.heap.size, 0, none⟩ = false := hX3.frozen 0
       have cl : x2.heap.size < x3.heap.size := hX3.lt
       have HX := hid hX3
       clear hX3
       go_wp2_with fail
       refine hK _ _ (Or.inl rfl) ?_
       clear hK K
       ((try simp only [Act.put]); (try simp only [nrA]); (try simp only [nrB]); (try simp only [nrC]))
       refine wpAnyS_one (i := 8) (by kernel_rfl) rfl rfl (fun K hK => ?_)
       go_wp2_with fail
       refine hK _ _ (Or.inl rfl) ?_
       clear hK K
       ((try simp only [Act.put]); (try simp only [nrA]); (try simp only [nrB]); (try simp only [nrC]))
       refine wpAnyS_done (by kernel_rfl) ?_ _
       go_wp2_with fail
       go_meet
       exact ⟨x2.heap.size, A, k, cap, rfl, rfl, (HX.out.set_ 0 _), (Nodes.keep (Z := fun b => x1.heap.size ≤ b) hN (hKA.setCell (fun h => absurd h (Nat.lt_irrefl _)) _)).mono (fun _ _ => trivial), (hB3.setCell hB2.size _)⟩
      ·go_wp2_with fail
       refine hK _ _ (Or.inr (.of_below (hB1.alloc hB1.size _))) ?_
       clear hK K
       ((try simp only [Act.put]); (try simp only [nrA]); (try simp only [nrB]); (try simp only [nrC]))
       have hB2 : Below W6.heap.size W6 (x1.alloc (.cells #[.slice none 0 0] 34)) := hB1.alloc hB1.size _
       have hX2 := Blk.new x1 34 #[.slice none 0 0]
       generalize x1.alloc (.cells #[.slice none 0 0] 34) = x2 at *
       refine wpAnyS_one (i := 2) (by kernel_rfl) rfl rfl (fun K hK => ?_)
       go_wp2_with fail
       refine (HBU.out _ hB2).mono ?_
       rintro e x3 ⟨A, k, cap, rfl, hN, hb⟩
       have hB3 : Below W6.heap.size W6 x3 := hB2.trans (hb.mono hB2.size)
       have hxl : x1.heap.size < x2.heap.size := hX2.lt
       have hX3 := hX2.below hb hX2.lt
       refine hK _ _ (Or.inr (.of_below hB3)) ?_
       clear hK K hb
       ((try simp only [Act.put]); (try simp only [nrA]); (try simp only [nrB]); (try simp only [nrC]))
       have hS : (fun W => Keeps (fun b => b = b1 ∨ b = b2) W6 W) x3 := .of_below hB3
       (refine wpAnyS_take0 (i := 3) (v := ?_) rfl (by kernel_rfl) (by kernel_rfl) (fun _ _ _ h => h) (Or.inl ⟨by rfl, ?_⟩) (Or.inr hS) ?_; rotate_left; (intro w hSw; clear hSw; go_simp; (try with_reducible rfl)); ((try simp only [Act.put]); (try simp only [nrA]); (try simp only [nrB]); (try simp only [nrC])))
       (refine wpAnyS_take0 (i := 4) (v := ?_) rfl (by kernel_rfl) (by kernel_rfl) (fun _ _ _ h => h) (Or.inl ⟨by rfl, ?_⟩) (Or.inr hS) ?_; rotate_left; (intro w hSw; clear hSw; go_simp; (try with_reducible rfl)); ((try simp only [Act.put]); (try simp only [nrA]); (try simp only [nrB]); (try simp only [nrC])))
       (refine wpAnyS_take0 (i := 5) (v := ?_) rfl (by kernel_rfl) (by kernel_rfl) (fun _ _ _ h => h) (Or.inl ⟨by rfl, ?_⟩) (Or.inr hS) ?_; rotate_left; (intro w hSw; clear hSw; go_simp; (try with_reducible rfl)); ((try simp only [Act.put]); (try simp only [nrA]); (try simp only [nrB]); (try simp only [nrC])))
       clear hS
       refine wpAnyS_one (i := 7) (by kernel_rfl) rfl rfl (fun K hK => ?_)
       have c0 : x3.cell? ⟨x1.heap.size, 0, none⟩ = some (.slice none 0 0) := hX3.cell 0
       have g0 : x3.frozen? ⟨x1.heap.size, 0, none⟩ = false := hX3.frozen 0
       have cl : x1.heap.size < x3.heap.size := hX3.lt
       have HX := hid hX3
       clear hX3
       go_wp2_with fail
       refine hK _ _ (Or.inl rfl) ?_
       clear hK K
       ((try simp only [Act.put]); (try simp only [nrA]); (try simp only [nrB]); (try simp only [nrC]))
       refine wpAnyS_one (i := 8) (by kernel_rfl) rfl rfl (fun K hK => ?_)
       go_wp2_with fail
       refine hK _ _ (Or.inl rfl) ?_
       clear hK K
       ((try simp only [Act.put]); (try simp only [nrA]); (try simp only [nrB]); (try simp only [nrC]))
       refine wpAnyS_done (by kernel_rfl) ?_ _
       go_wp2_with fail
       go_meet
       exact ⟨x1.heap.size, A, k, cap, rfl, rfl, (HX.out.set_ 0 _), (Nodes.keep (Z := fun b => x2.heap.size ≤ b) hN ((Keeps.refl _ _).setCell (fun _ h => absurd hxl (Nat.not_lt.2 h)) _)).mono (fun _ _ => trivial), (hB3.setCell hB1.size _)⟩
     ·go_wp2_with fail
      refine hK _ _ (Or.inr (.of_below (hB0.alloc hB0.size _))) ?_
      clear hK K
      ((try simp only [Act.put]); (try simp only [nrA]); (try simp only [nrB]); (try simp only [nrC]))
      have hB1 : Below W6.heap.size W6 (x0.alloc (.cells #[.slice none 0 0] 34)) := hB0.alloc hB0.size _
      have hX1 := Blk.new x0 34 #[.slice none 0 0]
      generalize x0.alloc (.cells #[.slice none 0 0] 34) = x1 at *
      refine wpAnyS_one (i := 0) (by kernel_rfl) rfl rfl (fun K hK => ?_)
      go_wp2_with fail
      refine (test_any _ _ _ _).mono ?_
      rintro e x2 ⟨rfl, hb⟩
      have hB2 : Below W6.heap.size W6 x2 := hB1.trans (hb.mono hB1.size)
      have hX2 := hX1.below hb hX1.lt
      refine hK _ _ (Or.inr (.of_below hB2)) ?_
      clear hK K hb
      ((try simp only [Act.put]); (try simp only [nrA]); (try simp only [nrB]); (try simp only [nrC]))
      refine wpAnyS_one (i := 2) (by kernel_rfl) rfl rfl (fun K hK => ?_)
      go_wp2_with fail
      refine (HBU.out _ hB2).mono ?_
      rintro e x3 ⟨A, k, cap, rfl, hN, hb⟩
      have hB3 : Below W6.heap.size W6 x3 := hB2.trans (hb.mono hB2.size)
      have hxl : x0.heap.size < x2.heap.size := hX2.lt
      have hX3 := hX2.below hb hX2.lt
      refine hK _ _ (Or.inr (.of_below hB3)) ?_
      clear hK K hb
      ((try simp only [Act.put]); (try simp only [nrA]); (try simp only [nrB]); (try simp only [nrC]))
      have hS : (fun W => Keeps (fun b => b = b1 ∨ b = b2) W6 W) x3 := .of_below hB3
      (refine wpAnyS_take0 (i := 3) (v := ?_) rfl (by kernel_rfl) (by kernel_rfl) (fun _ _ _ h => h) (Or.inl ⟨by rfl, ?_⟩) (Or.inr hS) ?_; rotate_left; (intro w hSw; clear hSw; go_simp; (try with_reducible rfl)); ((try simp only [Act.put]); (try simp only [nrA]); (try simp only [nrB]); (try simp only [nrC])))
      (refine wpAnyS_take0 (i := 4) (v := ?_) rfl (by kernel_rfl) (by kernel_rfl) (fun _ _ _ h => h) (Or.inl ⟨by rfl, ?_⟩) (Or.inr hS) ?_; rotate_left; (intro w hSw; clear hSw; go_simp; (try with_reducible rfl)); ((try simp only [Act.put]); (try simp only [nrA]); (try simp only [nrB]); (try simp only [nrC])))
      (refine wpAnyS_take0 (i := 5) (v := ?_) rfl (by kernel_rfl) (by kernel_rfl) (fun _ _ _ h => h) (Or.inl ⟨by rfl, ?_⟩) (Or.inr hS) ?_; rotate_left; (intro w hSw; clear hSw; go_simp; (try with_reducible rfl)); ((try simp only [Act.put]); (try simp only [nrA]); (try simp only [nrB]); (try simp only [nrC])))
      clear hS
      refine wpAnyS_one (i := 7) (by kernel_rfl) rfl rfl (fun K hK => ?_)
      have c0 : x3.cell? ⟨x0.heap.size, 0, none⟩ = some (.slice none 0 0) := hX3.cell 0
      have g0 : x3.frozen? ⟨x0.heap.size, 0, none⟩ = false := hX3.frozen 0
      have cl : x0.heap.size < x3.heap.size := hX3.lt
      have HX := hid hX3
      clear hX3
      go_wp2_with fail
      refine hK _ _ (Or.inl rfl) ?_
      clear hK K
      ((try simp only [Act.put]); (try simp only [nrA]); (try simp only [nrB]); (try simp only [nrC]))
      refine wpAnyS_one (i := 8) (by kernel_rfl) rfl rfl (fun K hK => ?_)
      go_wp2_with fail
      refine hK _ _ (Or.inl rfl) ?_
      clear hK K
      ((try simp only [Act.put]); (try simp only [nrA]); (try simp only [nrB]); (try simp only [nrC]))
      refine wpAnyS_done (by kernel_rfl) ?_ _
      go_wp2_with fail
      go_meet
      exact ⟨x0.heap.size, A, k, cap, rfl, rfl, (HX.out.set_ 0 _), (Nodes.keep (Z := fun b => x2.heap.size ≤ b) hN ((Keeps.refl _ _).setCell (fun _ h => absurd hxl (Nat.not_lt.2 h)) _)).mono (fun _ _ => trivial), (hB3.setCell hB0.size _)⟩
    case rest =>
     obtain ⟨b7, A7, k7, cap7, rfl, rfl, hx, hn, hb⟩ := hcut
     rename World => W7
     replace HBD := hid (Nat.lt_of_lt_of_le HBD.out hb.size)
     replace HW := hid (HW.out.trans (hb.mono HW.out.size))
     replace HF := hid (HF.out.keep (Keeps.of_below hb))
     replace HD := hid (HD.out.below hb HD.out.lt)
     replace H2 := hid (H2.out.below hb H2.out.lt)
     replace H3 := hid (H3.out.below hb H3.out.lt)
     replace HR := hid (HR.out.below hb HR.out.lt)
     replace H4 := hid (H4.out.below hb H4.out.lt)
     replace N4 := hid (N4.out.keep (Keeps.of_below hb))
     replace H5 := hid (H5.out.below hb H5.out.lt)
     replace N5 := hid (N5.out.keep (Keeps.of_below hb))
     replace H6 := hid (H6.out.below hb H6.out.lt)
     replace N6 := hid (N6.out.keep (Keeps.of_below hb))
     have H7 := hid hx
     have N7 := hid hn
     clear hx hn hb HBU
     have HBU := hid (fun (W : World) (hW : Below W7.heap.size W7 W) => h_build (HF.out.keep (Keeps.of_below hW)) (Nat.lt_of_lt_of_le HBD.out hW.size) ((HTAB.out.on (HW.out.trans (hW.mono HW.out.size))).mono (Nat.le_trans HW.out.size hW.size)) (cs := [.int .i64 3, .string ⟨#[116, 97, 120]⟩, .int .i64 5, .int .i64 150, .slice none 0 0]) (g := ([] : List NodeD)) (n := 1) (fm_leaf (fun _ => False) W (nm := ⟨#[116, 97, 120]⟩) (c := 5) (n := 150) (by show (3 : Nat) ≤ _; omega) (I64.of (by decide) (by decide)) (I64.of (by decide) (by decide))) (fun b hb => hb.elim) (by decide) h_tax)
     go_upto_region 8 with fail
     go_cut [12, 13] from 53 to 58 (fun vp ve wx => ∃ bx A k cap, vp = .pointer (some ⟨bx, 0, none⟩) ∧ ve = .int .i64 1 ∧ Blk wx bx 34 #[.slice A k cap] ∧ Nodes (fun _ => True) wx (.slice A k cap) (([] : List NodeD)) ∧ Below W7.heap.size W7 wx)
     case first =>
      have HC := hid (fun (W : World) (hW : Keeps (fun b => b = b1 ∨ b = b2) W7 W) => (show W.cell? ⟨b1, 0, none⟩ = some (.slice D 2 dcap) ∧ W.cell? ⟨b2, 0, none⟩ = some (.int .i64 3) ∧ W.cell? ⟨b2, 1, none⟩ = some (.string ⟨#[109, 105, 108, 105, 116, 97, 114, 121]⟩) ∧ W.cell? ⟨b2, 2, none⟩ = some (.int .i64 1) ∧ W.cell? ⟨b2, 3, none⟩ = some (.int .i64 1) ∧ W.cell? ⟨b2, 4, none⟩ = some (.slice none 0 0) from by
       have hb := H2.out.keep hW (Or.inr rfl)
       exact ⟨(HD.out.keep hW (Or.inl rfl)).cell 0, hb.cell 0, hb.cell 1, hb.cell 2, hb.cell 3, hb.cell 4⟩))
      refine wp_region_S 7 (fun W => Keeps (fun b => b = b1 ∨ b = b2) W7 W) (by kernel_rfl) ?_
      have hB0 : Below W7.heap.size W7 W7.drew := (Below.refl _ _).drew
      generalize W7.drew = x0 at *
      have hS : (fun W => Keeps (fun b => b = b1 ∨ b = b2) W7 W) x0 := .of_below hB0
      (refine wpAnyS_take (i := 1) (v := ?_) rfl (by kernel_rfl) (by kernel_rfl) (fun _ _ _ h => h) (Or.inl ⟨by rfl, ?_⟩) hS ?_; rotate_left; (intro w hSw; have hkw := hSw; obtain ⟨hd, h0, h1, h2, h3, h4⟩ := HC.out _ hkw; go_simp; (try with_reducible rfl)); ((try simp only [Act.put]); (try simp only [nrA]); (try simp only [nrB]); (try simp only [nrC])))
      clear hS
      refine wpAnyS_two (i := 0) (j := 6) (by kernel_rfl) rfl rfl rfl rfl (fun K hK => ?_) (fun K hK => ?_)
      ·go_wp2_with fail
       refine (test_any _ _ _ _).mono ?_
       rintro e x1 ⟨rfl, hb⟩
       have hB1 : Below W7.heap.size W7 x1 := hB0.trans (hb.mono hB0.size)
       refine hK _ _ (Or.inr (.of_below hB1)) ?_
       clear hK K hb
       ((try simp only [Act.put]); (try simp only [nrA]); (try simp only [nrB]); (try simp only [nrC]))
       refine wpAnyS_two (i := 2) (j := 6) (by kernel_rfl) rfl rfl rfl rfl (fun K hK => ?_) (fun K hK => ?_)
       ·go_wp2_with fail
        refine (HBU.out _ hB1).mono ?_
        rintro e x2 ⟨A, k, cap, rfl, hN, hb⟩
        have hB2 : Below W7.heap.size W7 x2 := hB1.trans (hb.mono hB1.size)
        refine hK _ _ (Or.inr (.of_below hB2)) ?_
        clear hK K hb
        ((try simp only [Act.put]); (try simp only [nrA]); (try simp only [nrB]); (try simp only [nrC]))
        have hS : (fun W => Keeps (fun b => b = b1 ∨ b = b2) W7 W) x2 := .of_below hB2
        (refine wpAnyS_take0 (i := 3) (v := ?_) rfl (by kernel_rfl) (by kernel_rfl) (fun _ _ _ h => h) (Or.inl ⟨by rfl, ?_⟩) (Or.inr hS) ?_; rotate_left; (intro w hSw; clear hSw; go_simp; (try with_reducible rfl)); ((try simp only [Act.put]); (try simp only [nrA]); (try simp only [nrB]); (try simp only [nrC])))
        (refine wpAnyS_take0 (i := 4) (v := ?_) rfl (by kernel_rfl) (by kernel_rfl) (fun _ _ _ h => h) (Or.inl ⟨by rfl, ?_⟩) (Or.inr hS) ?_; rotate_left; (intro w hSw; clear hSw; go_simp; (try with_reducible rfl)); ((try simp only [Act.put]); (try simp only [nrA]); (try simp only [nrB]); (try simp only [nrC])))
        (refine wpAnyS_take0 (i := 5) (v := ?_) rfl (by kernel_rfl) (by kernel_rfl) (fun _ _ _ h => h) (Or.inl ⟨by rfl, ?_⟩) (Or.inr hS) ?_; rotate_left; (intro w hSw; clear hSw; go_simp; (try with_reducible rfl)); ((try simp only [Act.put]); (try simp only [nrA]); (try simp only [nrB]); (try simp only [nrC])))
        clear hS
        refine wpAnyS_one (i := 6) (by kernel_rfl) rfl rfl (fun K hK => ?_)
        go_wp2_with fail
        refine hK _ _ (Or.inr (.of_below (hB2.alloc hB2.size _))) ?_
        clear hK K
        ((try simp only [Act.put]); (try simp only [nrA]); (try simp only [nrB]); (try simp only [nrC]))
        have hB3 : Below W7.heap.size W7 (x2.alloc (.cells #[.slice none 0 0] 34)) := hB2.alloc hB2.size _
        have hX3 := Blk.new x2 34 #[.slice none 0 0]
        have hKA : Keeps (fun b => x1.heap.size ≤ b) x2 (x2.alloc (.cells #[.slice none 0 0] 34)) := (Keeps.refl _ _).alloc _
        generalize x2.alloc (.cells #[.slice none 0 0] 34) = x3 at *
        refine wpAnyS_one (i := 7) (by kernel_rfl) rfl rfl (fun K hK => ?_)
        have c0 : x3.cell? ⟨x2.heap.size, 0, none⟩ = some (.slice none 0 0) := hX3.cell 0
        have g0 : x3.frozen? ⟨x2.heap.size, 0, none⟩ = false := hX3.frozen 0
        have cl : x2.heap.size < x3.heap.size := hX3.lt
        have HX := hid hX3
        clear hX3
        go_wp2_with fail
        refine hK _ _ (Or.inl rfl) ?_
        clear hK K
        ((try simp only [Act.put]); (try simp only [nrA]); (try simp only [nrB]); (try simp only [nrC]))
        refine wpAnyS_one (i := 8) (by kernel_rfl) rfl rfl (fun K hK => ?_)
        go_wp2_with fail
        refine hK _ _ (Or.inl rfl) ?_
        clear hK K
        ((try simp only [Act.put]); (try simp only [nrA]); (try simp only [nrB]); (try simp only [nrC]))
        refine wpAnyS_done (by kernel_rfl) ?_ _
        go_wp2_with fail
        go_meet
        exact ⟨x2.heap.size, A, k, cap, rfl, rfl, (HX.out.set_ 0 _), (Nodes.keep (Z := fun b => x1.heap.size ≤ b) hN (hKA.setCell (fun h => absurd h (Nat.lt_irrefl _)) _)).mono (fun _ _ => trivial), (hB3.setCell hB2.size _)⟩
       ·go_wp2_with fail
        refine hK _ _ (Or.inr (.of_below (hB1.alloc hB1.size _))) ?_
        clear hK K
        ((try simp only [Act.put]); (try simp only [nrA]); (try simp only [nrB]); (try simp only [nrC]))
        have hB2 : Below W7.heap.size W7 (x1.alloc (.cells #[.slice none 0 0] 34)) := hB1.alloc hB1.size _
        have hX2 := Blk.new x1 34 #[.slice none 0 0]
        generalize x1.alloc (.cells #[.slice none 0 0] 34) = x2 at *
        refine wpAnyS_one (i := 2) (by kernel_rfl) rfl rfl (fun K hK => ?_)
        go_wp2_with fail
        refine (HBU.out _ hB2).mono ?_
        rintro e x3 ⟨A, k, cap, rfl, hN, hb⟩
        have hB3 : Below W7.heap.size W7 x3 := hB2.trans (hb.mono hB2.size)
        have hxl : x1.heap.size < x2.heap.size := hX2.lt
        have hX3 := hX2.below hb hX2.lt
        refine hK _ _ (Or.inr (.of_below hB3)) ?_
        clear hK K hb
        ((try simp only [Act.put]); (try simp only [nrA]); (try simp only [nrB]); (try simp only [nrC]))
        have hS : (fun W => Keeps (fun b => b = b1 ∨ b = b2) W7 W) x3 := .of_below hB3
        (refine wpAnyS_take0 (i := 3) (v := ?_) rfl (by kernel_rfl) (by kernel_rfl) (fun _ _ _ h => h) (Or.inl ⟨by rfl, ?_⟩) (Or.inr hS) ?_; rotate_left; (intro w hSw; clear hSw; go_simp; (try with_reducible rfl)); ((try simp only [Act.put]); (try simp only [nrA]); (try simp only [nrB]); (try simp only [nrC])))
        (refine wpAnyS_take0 (i := 4) (v := ?_) rfl (by kernel_rfl) (by kernel_rfl) (fun _ _ _ h => h) (Or.inl ⟨by rfl, ?_⟩) (Or.inr hS) ?_; rotate_left; (intro w hSw; clear hSw; go_simp; (try with_reducible rfl)); ((try simp only [Act.put]); (try simp only [nrA]); (try simp only [nrB]); (try simp only [nrC])))
        (refine wpAnyS_take0 (i := 5) (v := ?_) rfl (by kernel_rfl) (by kernel_rfl) (fun _ _ _ h => h) (Or.inl ⟨by rfl, ?_⟩) (Or.inr hS) ?_; rotate_left; (intro w hSw; clear hSw; go_simp; (try with_reducible rfl)); ((try simp only [Act.put]); (try simp only [nrA]); (try simp only [nrB]); (try simp only [nrC])))
        clear hS
        refine wpAnyS_one (i := 7) (by kernel_rfl) rfl rfl (fun K hK => ?_)
        have c0 : x3.cell? ⟨x1.heap.size, 0, none⟩ = some (.slice none 0 0) := hX3.cell 0
        have g0 : x3.frozen? ⟨x1.heap.size, 0, none⟩ = false := hX3.frozen 0
        have cl : x1.heap.size < x3.heap.size := hX3.lt
        have HX := hid hX3
        clear hX3
        go_wp2_with fail
        refine hK _ _ (Or.inl rfl) ?_
        clear hK K
        ((try simp only [Act.put]); (try simp only [nrA]); (try simp only [nrB]); (try simp only [nrC]))
        refine wpAnyS_one (i := 8) (by kernel_rfl) rfl rfl (fun K hK => ?_)
        go_wp2_with fail
        refine hK _ _ (Or.inl rfl) ?_
        clear hK K
        ((try simp only [Act.put]); (try simp only [nrA]); (try simp only [nrB]); (try simp only [nrC]))
        refine wpAnyS_done (by kernel_rfl) ?_ _
        go_wp2_with fail
        go_meet
        exact ⟨x1.heap.size, A, k, cap, rfl, rfl, (HX.out.set_ 0 _), (Nodes.keep (Z := fun b => x2.heap.size ≤ b) hN ((Keeps.refl _ _).setCell (fun _ h => absurd hxl (Nat.not_lt.2 h)) _)).mono (fun _ _ => trivial), (hB3.setCell hB1.size _)⟩
      ·go_wp2_with fail
       refine hK _ _ (Or.inr (.of_below (hB0.alloc hB0.size _))) ?_
       clear hK K
       ((try simp only [Act.put]); (try simp only [nrA]); (try simp only [nrB]); (try simp only [nrC]))
       have hB1 : Below W7.heap.size W7 (x0.alloc (.cells #[.slice none 0 0] 34)) := hB0.alloc hB0.size _
       have hX1 := Blk.new x0 34 #[.slice none 0 0]
       generalize x0.alloc (.cells #[.slice none 0 0] 34) = x1 at *
       refine wpAnyS_one (i := 0) (by kernel_rfl) rfl rfl (fun K hK => ?_)
       go_wp2_with fail
       refine (test_any _ _ _ _).mono ?_
       rintro e x2 ⟨rfl, hb⟩
       have hB2 : Below W7.heap.size W7 x2 := hB1.trans (hb.mono hB1.size)
       have hX2 := hX1.below hb hX1.lt
       refine hK _ _ (Or.inr (.of_below hB2)) ?_
       clear hK K hb
       ((try simp only [Act.put]); (try simp only [nrA]); (try simp only [nrB]); (try simp only [nrC]))
       refine wpAnyS_one (i := 2) (by kernel_rfl) rfl rfl (fun K hK => ?_)
       go_wp2_with fail
       refine (HBU.out _ hB2).mono ?_
       rintro e x3 ⟨A, k, cap, rfl, hN, hb⟩
       have hB3 : Below W7.heap.size W7 x3 := hB2.trans (hb.mono hB2.size)
       have hxl : x0.heap.size < x2.heap.size := hX2.lt
       have hX3 := hX2.below hb hX2.lt
       refine hK _ _ (Or.inr (.of_below hB3)) ?_
       clear hK K hb
       ((try simp only [Act.put]); (try simp only [nrA]); (try simp only [nrB]); (try simp only [nrC]))
       have hS : (fun W => Keeps (fun b => b = b1 ∨ b = b2) W7 W) x3 := .of_below hB3
       (refine wpAnyS_take0 (i := 3) (v := ?_) rfl (by kernel_rfl) (by kernel_rfl) (fun _ _ _ h => h) (Or.inl ⟨by rfl, ?_⟩) (Or.inr hS) ?_; rotate_left; (intro w hSw; clear hSw; go_simp; (try with_reducible rfl)); ((try simp only [Act.put]); (try simp only [nrA]); (try simp only [nrB]); (try simp only [nrC])))
       (refine wpAnyS_take0 (i := 4) (v := ?_) rfl (by kernel_rfl) (by kernel_rfl) (fun _ _ _ h => h) (Or.inl ⟨by rfl, ?_⟩) (Or.inr hS) ?_; rotate_left; (intro w hSw; clear hSw; go_simp; (try with_reducible rfl)); ((try simp only [Act.put]); (try simp only [nrA]); (try simp only [nrB]); (try simp only [nrC])))
       (refine wpAnyS_take0 (i := 5) (v := ?_) rfl (by kernel_rfl) (by kernel_rfl) (fun _ _ _ h => h) (Or.inl ⟨by rfl, ?_⟩) (Or.inr hS) ?_; rotate_left; (intro w hSw; clear hSw; go_simp; (try with_reducible rfl)); ((try simp only [Act.put]); (try simp only [nrA]); (try simp only [nrB]); (try simp only [nrC])))
       clear hS
       refine wpAnyS_one (i := 7) (by kernel_rfl) rfl rfl (fun K hK => ?_)
       have c0 : x3.cell? ⟨x0.heap.size, 0, none⟩ = some (.slice none 0 0) := hX3.cell 0
       have g0 : x3.frozen? ⟨x0.heap.size, 0, none⟩ = false := hX3.frozen 0
       have cl : x0.heap.size < x3.heap.size := hX3.lt
       have HX := hid hX3
       clear hX3
       go_wp2_with fail
       refine hK _ _ (Or.inl rfl) ?_
       clear hK K
       ((try simp only [Act.put]); (try simp only [nrA]); (try simp only [nrB]); (try simp only [nrC]))
       refine wpAnyS_one (i := 8) (by kernel_rfl) rfl rfl (fun K hK => ?_)
       go_wp2_with fail
       refine hK _ _ (Or.inl rfl) ?_
       clear hK K
       ((try simp only [Act.put]); (try simp only [nrA]); (try simp only [nrB]); (try simp only [nrC]))
       refine wpAnyS_done (by kernel_rfl) ?_ _
       go_wp2_with fail
       go_meet
       exact ⟨x0.heap.size, A, k, cap, rfl, rfl, (HX.out.set_ 0 _), (Nodes.keep (Z := fun b => x2.heap.size ≤ b) hN ((Keeps.refl _ _).setCell (fun _ h => absurd hxl (Nat.not_lt.2 h)) _)).mono (fun _ _ => trivial), (hB3.setCell hB0.size _)⟩
     case rest =>
      obtain ⟨b8, A8, k8, cap8, rfl, rfl, hx, hn, hb⟩ := hcut
      rename World => W8
      replace HBD := hid (Nat.lt_of_lt_of_le HBD.out hb.size)
      replace HW := hid (HW.out.trans (hb.mono HW.out.size))
      replace HF := hid (HF.out.keep (Keeps.of_below hb))
      replace HD := hid (HD.out.below hb HD.out.lt)
      replace H2 := hid (H2.out.below hb H2.out.lt)
      replace H3 := hid (H3.out.below hb H3.out.lt)
      replace HR := hid (HR.out.below hb HR.out.lt)
      replace H4 := hid (H4.out.below hb H4.out.lt)
      replace N4 := hid (N4.out.keep (Keeps.of_below hb))
      replace H5 := hid (H5.out.below hb H5.out.lt)
      replace N5 := hid (N5.out.keep (Keeps.of_below hb))
      replace H6 := hid (H6.out.below hb H6.out.lt)
      replace N6 := hid (N6.out.keep (Keeps.of_below hb))
      replace H7 := hid (H7.out.below hb H7.out.lt)
      replace N7 := hid (N7.out.keep (Keeps.of_below hb))
      have H8 := hid hx
      have N8 := hid hn
      clear hx hn hb HBU
      clear H2 H3 HR H8 N8
      go_upto_region 10 with fail
      have hm := want_make W8
      obtain ⟨hx, hn, hb⟩ := hm
      replace HBD := hid (Nat.lt_of_lt_of_le HBD.out hb.size)
      replace HW := hid (HW.out.trans (hb.mono HW.out.size))
      replace HF := hid (HF.out.keep (Keeps.of_below hb))
      replace HD := hid (HD.out.below hb HD.out.lt)
      replace H4 := hid (H4.out.below hb H4.out.lt)
      replace N4 := hid (N4.out.keep (Keeps.of_below hb))
      replace H5 := hid (H5.out.below hb H5.out.lt)
      replace N5 := hid (N5.out.keep (Keeps.of_below hb))
      replace H6 := hid (H6.out.below hb H6.out.lt)
      replace N6 := hid (N6.out.keep (Keeps.of_below hb))
      replace H7 := hid (H7.out.below hb H7.out.lt)
      replace N7 := hid (N7.out.keep (Keeps.of_below hb))
      clear hb
      generalize ((((((W8.alloc (.cells #[.int .i64 18] 3)).alloc (.cells #[.int .i64 1, .int .i64 2] 3)).alloc (.cells #[.int .i64 1] 3)).alloc (.cells #[.int .i64 1, .int .i64 3] 3)).alloc (.cells #[.bool false, .int .i64 0, .slice (some ⟨W8.heap.size, 0, none⟩) 1 1, .slice (some ⟨W8.heap.size + 1, 0, none⟩) 2 2, .bool false, .int .i64 0, .slice none 0 0, .slice none 0 0, .bool false, .int .i64 1, .slice (some ⟨W8.heap.size + 1 + 1, 0, none⟩) 1 1, .slice (some ⟨W8.heap.size + 1 + 1 + 1, 0, none⟩) 2 2, .bool true, .int .i64 0, .slice none 0 0, .slice none 0 0] 55)).alloc (.cells #[.slice (some ⟨W8.heap.size + 1 + 1 + 1 + 1, 0, none⟩) 4 4] 34)) = W9 at *
      generalize W8.heap.size + 1 + 1 + 1 + 1 + 1 = b9 at *
      generalize W8.heap.size + 1 + 1 + 1 + 1 = row9 at *
      have H9 := hid hx
      have N9 := hid hn
      clear hx hn
      go_upto_region 11 with fail
      have hm := one_make W9 true
      obtain ⟨hx, hn, hb⟩ := hm
      replace HBD := hid (Nat.lt_of_lt_of_le HBD.out hb.size)
      replace HW := hid (HW.out.trans (hb.mono HW.out.size))
      replace HF := hid (HF.out.keep (Keeps.of_below hb))
      replace HD := hid (HD.out.below hb HD.out.lt)
      replace H4 := hid (H4.out.below hb H4.out.lt)
      replace N4 := hid (N4.out.keep (Keeps.of_below hb))
      replace H5 := hid (H5.out.below hb H5.out.lt)
      replace N5 := hid (N5.out.keep (Keeps.of_below hb))
      replace H6 := hid (H6.out.below hb H6.out.lt)
      replace N6 := hid (N6.out.keep (Keeps.of_below hb))
      replace H7 := hid (H7.out.below hb H7.out.lt)
      replace N7 := hid (N7.out.keep (Keeps.of_below hb))
      replace H9 := hid (H9.out.below hb H9.out.lt)
      replace N9 := hid (N9.out.keep (Keeps.of_below hb))
      clear hb
      generalize ((W9.alloc (.cells #[.bool true, .int .i64 0, .slice none 0 0, .slice none 0 0] 55)).alloc (.cells #[.slice (some ⟨W9.heap.size, 0, none⟩) 1 1] 34)) = W10 at *
      generalize W9.heap.size + 1 = b10 at *
      generalize W9.heap.size = row10 at *
      have H10 := hid hx
      have N10 := hid hn
      clear hx hn
      go_upto_region 12 with fail
      have hm := one_make W10 false
      obtain ⟨hx, hn, hb⟩ := hm
      replace HBD := hid (Nat.lt_of_lt_of_le HBD.out hb.size)
      replace HW := hid (HW.out.trans (hb.mono HW.out.size))
      replace HF := hid (HF.out.keep (Keeps.of_below hb))
      replace HD := hid (HD.out.below hb HD.out.lt)
      replace H4 := hid (H4.out.below hb H4.out.lt)
      replace N4 := hid (N4.out.keep (Keeps.of_below hb))
      replace H5 := hid (H5.out.below hb H5.out.lt)
      replace N5 := hid (N5.out.keep (Keeps.of_below hb))
      replace H6 := hid (H6.out.below hb H6.out.lt)
      replace N6 := hid (N6.out.keep (Keeps.of_below hb))
      replace H7 := hid (H7.out.below hb H7.out.lt)
      replace N7 := hid (N7.out.keep (Keeps.of_below hb))
      replace H9 := hid (H9.out.below hb H9.out.lt)
      replace N9 := hid (N9.out.keep (Keeps.of_below hb))
      replace H10 := hid (H10.out.below hb H10.out.lt)
      replace N10 := hid (N10.out.keep (Keeps.of_below hb))
      clear hb
      generalize ((W10.alloc (.cells #[.bool false, .int .i64 0, .slice none 0 0, .slice none 0 0] 55)).alloc (.cells #[.slice (some ⟨W10.heap.size, 0, none⟩) 1 1] 34)) = W11 at *
      generalize W10.heap.size + 1 = b11 at *
      generalize W10.heap.size = row11 at *
      have H11 := hid hx
      have N11 := hid hn
      clear hx hn
      have HCA := hid (h_leastc W11 N4.out (HF.out.mono fun _ _ => trivial) ((HTAB.out.on HW.out).mono HW.out.size))
      have c4 : W11.cell? ⟨b4, 0, none⟩ = some (.slice A4 k4 cap4) := H4.out.cell 0
      have l4 : b4 < W11.heap.size := H4.out.lt
      have c1 : W11.cell? ⟨b1, 0, none⟩ = some (.slice D 2 dcap) := HD.out.cell 0
      have l1 : b1 < W11.heap.size := HD.out.lt
      go_wp2_with fail
      refine HCA.out.mono ?_
      rintro e W12 ⟨AL, kl, capl, rfl, hL, hb⟩
      clear HCA c4 l4 c1 l1
      have NL := hid (hL.keep (Keeps.refl _ _))
      clear hL
      replace HBD := hid (Nat.lt_of_lt_of_le HBD.out hb.size)
      replace HW := hid (HW.out.trans (hb.mono HW.out.size))
      replace HF := hid (HF.out.keep (Keeps.of_below hb))
      replace HD := hid (HD.out.below hb HD.out.lt)
      replace H4 := hid (H4.out.below hb H4.out.lt)
      replace N4 := hid (N4.out.keep (Keeps.of_below hb))
      replace H5 := hid (H5.out.below hb H5.out.lt)
      replace N5 := hid (N5.out.keep (Keeps.of_below hb))
      replace H6 := hid (H6.out.below hb H6.out.lt)
      replace N6 := hid (N6.out.keep (Keeps.of_below hb))
      replace H7 := hid (H7.out.below hb H7.out.lt)
      replace N7 := hid (N7.out.keep (Keeps.of_below hb))
      replace H9 := hid (H9.out.below hb H9.out.lt)
      replace N9 := hid (N9.out.keep (Keeps.of_below hb))
      replace H10 := hid (H10.out.below hb H10.out.lt)
      replace N10 := hid (N10.out.keep (Keeps.of_below hb))
      replace H11 := hid (H11.out.below hb H11.out.lt)
      replace N11 := hid (N11.out.keep (Keeps.of_below hb))
      clear hb
      have HCA := hid (h_same W12 N4.out N9.out)
      have c4 : W12.cell? ⟨b4, 0, none⟩ = some (.slice A4 k4 cap4) := H4.out.cell 0
      have l4 : b4 < W12.heap.size := H4.out.lt
      have c9 : W12.cell? ⟨b9, 0, none⟩ = some (.slice (some ⟨row9, 0, none⟩) 4 4) := H9.out.cell 0
      have l9 : b9 < W12.heap.size := H9.out.lt
      go_wp2_with fail
      refine HCA.out.mono ?_
      rintro e W13 ⟨rfl, hb⟩
      clear HCA c4 l4 c9 l9
      replace HBD := hid (Nat.lt_of_lt_of_le HBD.out hb.size)
      replace HW := hid (HW.out.trans (hb.mono HW.out.size))
      replace HF := hid (HF.out.keep (Keeps.of_below hb))
      replace HD := hid (HD.out.below hb HD.out.lt)
      replace H4 := hid (H4.out.below hb H4.out.lt)
      replace N4 := hid (N4.out.keep (Keeps.of_below hb))
      replace H5 := hid (H5.out.below hb H5.out.lt)
      replace N5 := hid (N5.out.keep (Keeps.of_below hb))
      replace H6 := hid (H6.out.below hb H6.out.lt)
      replace N6 := hid (N6.out.keep (Keeps.of_below hb))
      replace H7 := hid (H7.out.below hb H7.out.lt)
      replace N7 := hid (N7.out.keep (Keeps.of_below hb))
      replace H9 := hid (H9.out.below hb H9.out.lt)
      replace N9 := hid (N9.out.keep (Keeps.of_below hb))
      replace H10 := hid (H10.out.below hb H10.out.lt)
      replace N10 := hid (N10.out.keep (Keeps.of_below hb))
      replace H11 := hid (H11.out.below hb H11.out.lt)
      replace N11 := hid (N11.out.keep (Keeps.of_below hb))
      replace NL := hid (NL.out.keep (Keeps.of_below hb))
      clear hb
      have HCA := hid (h_same W13 N5.out N10.out)
      have c5 : W13.cell? ⟨b5, 0, none⟩ = some (.slice A5 k5 cap5) := H5.out.cell 0
      have l5 : b5 < W13.heap.size := H5.out.lt
      have c10 : W13.cell? ⟨b10, 0, none⟩ = some (.slice (some ⟨row10, 0, none⟩) 1 1) := H10.out.cell 0
      have l10 : b10 < W13.heap.size := H10.out.lt
      go_wp2_with fail
      refine HCA.out.mono ?_
      rintro e W14 ⟨rfl, hb⟩
      clear HCA c5 l5 c10 l10
      replace HBD := hid (Nat.lt_of_lt_of_le HBD.out hb.size)
      replace HW := hid (HW.out.trans (hb.mono HW.out.size))
      replace HF := hid (HF.out.keep (Keeps.of_below hb))
      replace HD := hid (HD.out.below hb HD.out.lt)
      replace H4 := hid (H4.out.below hb H4.out.lt)
      replace N4 := hid (N4.out.keep (Keeps.of_below hb))
      replace H5 := hid (H5.out.below hb H5.out.lt)
      replace N5 := hid (N5.out.keep (Keeps.of_below hb))
      replace H6 := hid (H6.out.below hb H6.out.lt)
      replace N6 := hid (N6.out.keep (Keeps.of_below hb))
      replace H7 := hid (H7.out.below hb H7.out.lt)
      replace N7 := hid (N7.out.keep (Keeps.of_below hb))
      replace H9 := hid (H9.out.below hb H9.out.lt)
      replace N9 := hid (N9.out.keep (Keeps.of_below hb))
      replace H10 := hid (H10.out.below hb H10.out.lt)
      replace N10 := hid (N10.out.keep (Keeps.of_below hb))
      replace H11 := hid (H11.out.below hb H11.out.lt)
      replace N11 := hid (N11.out.keep (Keeps.of_below hb))
      replace NL := hid (NL.out.keep (Keeps.of_below hb))
      clear hb
      have HCA := hid (h_same W14 N6.out N10.out)
      have c6 : W14.cell? ⟨b6, 0, none⟩ = some (.slice A6 k6 cap6) := H6.out.cell 0
      have l6 : b6 < W14.heap.size := H6.out.lt
      have c10 : W14.cell? ⟨b10, 0, none⟩ = some (.slice (some ⟨row10, 0, none⟩) 1 1) := H10.out.cell 0
      have l10 : b10 < W14.heap.size := H10.out.lt
      go_wp2_with fail
      refine HCA.out.mono ?_
      rintro e W15 ⟨rfl, hb⟩
      clear HCA c6 l6 c10 l10
      replace HBD := hid (Nat.lt_of_lt_of_le HBD.out hb.size)
      replace HW := hid (HW.out.trans (hb.mono HW.out.size))
      replace HF := hid (HF.out.keep (Keeps.of_below hb))
      replace HD := hid (HD.out.below hb HD.out.lt)
      replace H4 := hid (H4.out.below hb H4.out.lt)
      replace N4 := hid (N4.out.keep (Keeps.of_below hb))
      replace H5 := hid (H5.out.below hb H5.out.lt)
      replace N5 := hid (N5.out.keep (Keeps.of_below hb))
      replace H6 := hid (H6.out.below hb H6.out.lt)
      replace N6 := hid (N6.out.keep (Keeps.of_below hb))
      replace H7 := hid (H7.out.below hb H7.out.lt)
      replace N7 := hid (N7.out.keep (Keeps.of_below hb))
      replace H9 := hid (H9.out.below hb H9.out.lt)
      replace N9 := hid (N9.out.keep (Keeps.of_below hb))
      replace H10 := hid (H10.out.below hb H10.out.lt)
      replace N10 := hid (N10.out.keep (Keeps.of_below hb))
      replace H11 := hid (H11.out.below hb H11.out.lt)
      replace N11 := hid (N11.out.keep (Keeps.of_below hb))
      replace NL := hid (NL.out.keep (Keeps.of_below hb))
      clear hb
      have HCA := hid (h_same W15 N7.out N11.out)
      have c7 : W15.cell? ⟨b7, 0, none⟩ = some (.slice A7 k7 cap7) := H7.out.cell 0
      have l7 : b7 < W15.heap.size := H7.out.lt
      have c11 : W15.cell? ⟨b11, 0, none⟩ = some (.slice (some ⟨row11, 0, none⟩) 1 1) := H11.out.cell 0
      have l11 : b11 < W15.heap.size := H11.out.lt
      go_wp2_with fail
      refine HCA.out.mono ?_
      rintro e W16 ⟨rfl, hb⟩
      clear HCA c7 l7 c11 l11
      replace HBD := hid (Nat.lt_of_lt_of_le HBD.out hb.size)
      replace HW := hid (HW.out.trans (hb.mono HW.out.size))
      replace HF := hid (HF.out.keep (Keeps.of_below hb))
      replace HD := hid (HD.out.below hb HD.out.lt)
      replace H4 := hid (H4.out.below hb H4.out.lt)
      replace N4 := hid (N4.out.keep (Keeps.of_below hb))
      replace H5 := hid (H5.out.below hb H5.out.lt)
      replace N5 := hid (N5.out.keep (Keeps.of_below hb))
      replace H6 := hid (H6.out.below hb H6.out.lt)
      replace N6 := hid (N6.out.keep (Keeps.of_below hb))
      replace H7 := hid (H7.out.below hb H7.out.lt)
      replace N7 := hid (N7.out.keep (Keeps.of_below hb))
      replace H9 := hid (H9.out.below hb H9.out.lt)
      replace N9 := hid (N9.out.keep (Keeps.of_below hb))
      replace H10 := hid (H10.out.below hb H10.out.lt)
      replace N10 := hid (N10.out.keep (Keeps.of_below hb))
      replace H11 := hid (H11.out.below hb H11.out.lt)
      replace N11 := hid (N11.out.keep (Keeps.of_below hb))
      replace NL := hid (NL.out.keep (Keeps.of_below hb))
      clear hb
      have hb := below1 W16 (.cells #[.int .i64 18, .int .i64 1] 3)
      have hrow := Blk.new W16 3 #[.int .i64 18, .int .i64 1]
      have HIN := hid (ints_rowA (xs := [18, 1]) hrow (by intro x hx; simp at hx; rcases hx with rfl | rfl <;> exact I64.of (by decide) (by decide)) (by simp))
      clear hrow
      have HWA := hid hb
      clear hb
      have HCA := hid (h_ints _ (NL.out.keep (Keeps.of_below HWA.out)) HIN.out)
      go_wp2_with fail
      refine HCA.out.mono ?_
      rintro e W17 ⟨rfl, hb⟩
      clear HCA
      have hbb := HWA.out.trans (hb.mono HWA.out.size)
      clear hb HIN HWA
      replace HBD := hid (Nat.lt_of_lt_of_le HBD.out hbb.size)
      replace HW := hid (HW.out.trans (hbb.mono HW.out.size))
      replace HF := hid (HF.out.keep (Keeps.of_below hbb))
      replace HD := hid (HD.out.below hbb HD.out.lt)
      replace H4 := hid (H4.out.below hbb H4.out.lt)
      replace N4 := hid (N4.out.keep (Keeps.of_below hbb))
      replace H5 := hid (H5.out.below hbb H5.out.lt)
      replace N5 := hid (N5.out.keep (Keeps.of_below hbb))
      replace H6 := hid (H6.out.below hbb H6.out.lt)
      replace N6 := hid (N6.out.keep (Keeps.of_below hbb))
      replace H7 := hid (H7.out.below hbb H7.out.lt)
      replace N7 := hid (N7.out.keep (Keeps.of_below hbb))
      replace H9 := hid (H9.out.below hbb H9.out.lt)
      replace N9 := hid (N9.out.keep (Keeps.of_below hbb))
      replace H10 := hid (H10.out.below hbb H10.out.lt)
      replace N10 := hid (N10.out.keep (Keeps.of_below hbb))
      replace H11 := hid (H11.out.below hbb H11.out.lt)
      replace N11 := hid (N11.out.keep (Keeps.of_below hbb))
      replace NL := hid (NL.out.keep (Keeps.of_below hbb))
      clear hbb
      have hb := below1 W17 (.cells #[.int .i64 20, .int .i64 1] 3)
      have hrow := Blk.new W17 3 #[.int .i64 20, .int .i64 1]
      have HIN := hid (ints_rowA (xs := [20, 1]) hrow (by intro x hx; simp at hx; rcases hx with rfl | rfl <;> exact I64.of (by decide) (by decide)) (by simp))
      clear hrow
      have HWA := hid hb
      clear hb
      have HCA := hid (dholds_any _ _ _ hWant [20, 1] _ (N4.out.keep (Keeps.of_below HWA.out)) HIN.out)
      have c4 : W17.cell? ⟨b4, 0, none⟩ = some (.slice A4 k4 cap4) := H4.out.cell 0
      have l4 : b4 < W17.heap.size := H4.out.lt
      go_wp2_with fail
      refine HCA.out.mono ?_
      rintro e W18 ⟨rfl, hb⟩
      clear HCA c4 l4
      have hbb := HWA.out.trans (hb.mono HWA.out.size)
      clear hb HIN HWA
      replace HBD := hid (Nat.lt_of_lt_of_le HBD.out hbb.size)
      replace HW := hid (HW.out.trans (hbb.mono HW.out.size))
      replace HF := hid (HF.out.keep (Keeps.of_below hbb))
      replace HD := hid (HD.out.below hbb HD.out.lt)
      replace H4 := hid (H4.out.below hbb H4.out.lt)
      replace N4 := hid (N4.out.keep (Keeps.of_below hbb))
      replace H5 := hid (H5.out.below hbb H5.out.lt)
      replace N5 := hid (N5.out.keep (Keeps.of_below hbb))
      replace H6 := hid (H6.out.below hbb H6.out.lt)
      replace N6 := hid (N6.out.keep (Keeps.of_below hbb))
      replace H7 := hid (H7.out.below hbb H7.out.lt)
      replace N7 := hid (N7.out.keep (Keeps.of_below hbb))
      replace H9 := hid (H9.out.below hbb H9.out.lt)
      replace N9 := hid (N9.out.keep (Keeps.of_below hbb))
      replace H10 := hid (H10.out.below hbb H10.out.lt)
      replace N10 := hid (N10.out.keep (Keeps.of_below hbb))
      replace H11 := hid (H11.out.below hbb H11.out.lt)
      replace N11 := hid (N11.out.keep (Keeps.of_below hbb))
      replace NL := hid (NL.out.keep (Keeps.of_below hbb))
      clear hbb
      have hb := below1 W18 (.cells #[.int .i64 20, .int .i64 0] 3)
      have hrow := Blk.new W18 3 #[.int .i64 20, .int .i64 0]
      have HIN := hid (ints_rowA (xs := [20, 0]) hrow (by intro x hx; simp at hx; rcases hx with rfl | rfl <;> exact I64.of (by decide) (by decide)) (by simp))
      clear hrow
      have HWA := hid hb
      clear hb
      have HCA := hid (dholds_any _ _ _ hWant [20, 0] _ (N4.out.keep (Keeps.of_below HWA.out)) HIN.out)
      have c4 : W18.cell? ⟨b4, 0, none⟩ = some (.slice A4 k4 cap4) := H4.out.cell 0
      have l4 : b4 < W18.heap.size := H4.out.lt
      go_wp2_with fail
      refine HCA.out.mono ?_
      rintro e W19 ⟨rfl, hb⟩
      clear HCA c4 l4
      have hbb := HWA.out.trans (hb.mono HWA.out.size)
      clear hb HIN HWA
      replace HBD := hid (Nat.lt_of_lt_of_le HBD.out hbb.size)
      replace HW := hid (HW.out.trans (hbb.mono HW.out.size))
      replace HF := hid (HF.out.keep (Keeps.of_below hbb))
      replace HD := hid (HD.out.below hbb HD.out.lt)
      replace H4 := hid (H4.out.below hbb H4.out.lt)
      replace N4 := hid (N4.out.keep (Keeps.of_below hbb))
      replace H5 := hid (H5.out.below hbb H5.out.lt)
      replace N5 := hid (N5.out.keep (Keeps.of_below hbb))
      replace H6 := hid (H6.out.below hbb H6.out.lt)
      replace N6 := hid (N6.out.keep (Keeps.of_below hbb))
      replace H7 := hid (H7.out.below hbb H7.out.lt)
      replace N7 := hid (N7.out.keep (Keeps.of_below hbb))
      replace H9 := hid (H9.out.below hbb H9.out.lt)
      replace N9 := hid (N9.out.keep (Keeps.of_below hbb))
      replace H10 := hid (H10.out.below hbb H10.out.lt)
      replace N10 := hid (N10.out.keep (Keeps.of_below hbb))
      replace H11 := hid (H11.out.below hbb H11.out.lt)
      replace N11 := hid (N11.out.keep (Keeps.of_below hbb))
      replace NL := hid (NL.out.keep (Keeps.of_below hbb))
      clear hbb
      have HCA := hid (h_valid1 W19 N4.out (HF.out.mono fun _ _ => trivial) ((HTAB.out.on HW.out).mono HW.out.size))
      have c4 : W19.cell? ⟨b4, 0, none⟩ = some (.slice A4 k4 cap4) := H4.out.cell 0
      have l4 : b4 < W19.heap.size := H4.out.lt
      have c1 : W19.cell? ⟨b1, 0, none⟩ = some (.slice D 2 dcap) := HD.out.cell 0
      have l1 : b1 < W19.heap.size := HD.out.lt
      go_wp2_with fail
      refine HCA.out.mono ?_
      rintro e W20 ⟨rfl, hb⟩
      clear HCA c4 l4 c1 l1
      replace HBD := hid (Nat.lt_of_lt_of_le HBD.out hb.size)
      replace HW := hid (HW.out.trans (hb.mono HW.out.size))
      replace HF := hid (HF.out.keep (Keeps.of_below hb))
      replace HD := hid (HD.out.below hb HD.out.lt)
      replace H4 := hid (H4.out.below hb H4.out.lt)
      replace N4 := hid (N4.out.keep (Keeps.of_below hb))
      replace H5 := hid (H5.out.below hb H5.out.lt)
      replace N5 := hid (N5.out.keep (Keeps.of_below hb))
      replace H6 := hid (H6.out.below hb H6.out.lt)
      replace N6 := hid (N6.out.keep (Keeps.of_below hb))
      replace H7 := hid (H7.out.below hb H7.out.lt)
      replace N7 := hid (N7.out.keep (Keeps.of_below hb))
      replace H9 := hid (H9.out.below hb H9.out.lt)
      replace N9 := hid (N9.out.keep (Keeps.of_below hb))
      replace H10 := hid (H10.out.below hb H10.out.lt)
      replace N10 := hid (N10.out.keep (Keeps.of_below hb))
      replace H11 := hid (H11.out.below hb H11.out.lt)
      replace N11 := hid (N11.out.keep (Keeps.of_below hb))
      replace NL := hid (NL.out.keep (Keeps.of_below hb))
      clear hb
      have HCA := hid (h_valid2 W20 (HF.out.mono fun _ _ => trivial) ((HTAB.out.on HW.out).mono HW.out.size))
      have c1 : W20.cell? ⟨b1, 0, none⟩ = some (.slice D 2 dcap) := HD.out.cell 0
      have l1 : b1 < W20.heap.size := HD.out.lt
      go_wp2_with fail
      refine HCA.out.mono ?_
      rintro e W21 ⟨rfl, hb⟩
      clear HCA c1 l1
      replace HBD := hid (Nat.lt_of_lt_of_le HBD.out hb.size)
      replace HW := hid (HW.out.trans (hb.mono HW.out.size))
      replace HF := hid (HF.out.keep (Keeps.of_below hb))
      replace HD := hid (HD.out.below hb HD.out.lt)
      replace H4 := hid (H4.out.below hb H4.out.lt)
      replace N4 := hid (N4.out.keep (Keeps.of_below hb))
      replace H5 := hid (H5.out.below hb H5.out.lt)
      replace N5 := hid (N5.out.keep (Keeps.of_below hb))
      replace H6 := hid (H6.out.below hb H6.out.lt)
      replace N6 := hid (N6.out.keep (Keeps.of_below hb))
      replace H7 := hid (H7.out.below hb H7.out.lt)
      replace N7 := hid (N7.out.keep (Keeps.of_below hb))
      replace H9 := hid (H9.out.below hb H9.out.lt)
      replace N9 := hid (N9.out.keep (Keeps.of_below hb))
      replace H10 := hid (H10.out.below hb H10.out.lt)
      replace N10 := hid (N10.out.keep (Keeps.of_below hb))
      replace H11 := hid (H11.out.below hb H11.out.lt)
      replace N11 := hid (N11.out.keep (Keeps.of_below hb))
      replace NL := hid (NL.out.keep (Keeps.of_below hb))
      clear hb
      go_wp2_with fail
      exact bodyPost_ret (v := .bool true) (by simp [results, Tryz.results10, go_sem]) rfl ⟨rfl, HW.out⟩
end Go.Proofs.YtcigjmlileckhaaGreatDoor
