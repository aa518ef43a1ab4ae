/- Walks of package lexer: while, gap. A quiet call behind a quiet region. Over any program. Walks of strings.IndexRune and strings.IndexAny at the two bytes that the lexer looks for. -/
import Derived.Test.YtcigjmlileckhaaGreatDoorM16
import Derived.Deep.QuietTactic
import Derived.BigQuiet
/- Walks of package lexer: while, gap. -/
namespace Go.Proofs.YtcigjmlileckhaaGreatDoor
open Go.RowKit
theorem ScanAt.drewN {w : World} {S : Nat} {s : ByteArray} (h : ScanAt w S s) (n : Nat) : ScanAt (w.drewN n) S s := ⟨h.1, h.2⟩
theorem contains_any (Z : Zone) (v : Value) (zs : List Int) (x : Int) (w : World) (h : Ints Z w v zs) :
  Calls Tryz.prog 173 #[v, .int .i64 x] w fun e w' => e = .returned (.bool (zs.contains x)) ∧ w = w' := by
 have hlen : zs.length * 8 ≤ 140737488355328 := by obtain ⟨⟨_, _, _, _, _, h8, _⟩, _⟩ := h; exact h8
 by_cases hne : zs = []
 ·subst hne
  obtain ⟨⟨A, cap, rfl, _⟩, _⟩ := h
  refine (Tryz.slices_Contains_int_empty A cap x w).mono ?_
  rintro e w' ⟨rfl, rfl⟩
  exact ⟨rfl, rfl⟩
 ·obtain ⟨b, off, cap, rfl, _, _, _, hc⟩ := h.open_ hne
  refine (Tryz.slices_Contains_int b off zs.length cap zs x w (Nat.le_refl _) (by omega) hc).mono ?_
  rintro e w' ⟨rfl, rfl⟩
  exact ⟨by rw [List.take_length], rfl⟩
set_option maxRecDepth 100000 in
set_option maxHeartbeats 1000000 in
theorem while_any (S : Nat) (s : ByteArray) (i : Int) (Z : Zone) (v : Value) (cls : List Int) (w : World) (h : ScanAt w S s) (hi : 0 ≤ i) (hi2 : i ≤ s.size) (hs : s.size ≤ 140737488355328) (hv : Ints Z w v cls) :
  Calls Tryz.prog 164 #[.pointer (some ⟨S, 0, none⟩), .int .i64 i, v] w fun e w' => e = .returned (.int .i64 (runEnd s cls i.toNat)) ∧ ∃ n, w' = w.drewN n := by
 obtain ⟨k0, rfl⟩ : ∃ k : Nat, i = k := ⟨i.toNat, by omega⟩
 have h0 := h.1
 have H := hid h
 have HV := hid hv
 clear h hv
 go_enter Tryz.func164, Tryz.ntmps164
 go_wp2
 go_loopw [1] (fun i wr => ∃ k q : Nat, k0 ≤ k ∧ k ≤ s.size ∧ i = .int .i64 k ∧ Hid (∀ j, k0 ≤ j → j < k → cls.contains (classAt s j) = true) ∧ wr = w.drewN q) (fun i _ => s.size - (intOf i).toNat)
 case atStart => exact ⟨k0, 0, Nat.le_refl _, by omega, rfl, fun j a b => by omega, rfl⟩
 case round =>
  obtain ⟨k, q, hk0, hk, rfl, hall, rfl⟩ := hrel
  by_cases hlt : k < s.size
  ·have hlt' : decide ((k : Int) < (s.size : Int)) = true := by simp; omega
   cases hct : cls.contains (classAt s k) with
   | true =>
    have HCT := hid hct
    clear hct
    repeat' (first | (go_big_may; first
     | (go_at_call 165; refine (at_any S s k _ (H.out.drewN q) (by omega) (by omega) hs).mono ?_; rintro e w' ⟨rfl, n, rfl⟩; simp only [Int.toNat_natCast])
     | (go_at_call 173; refine (contains_any Z v cls (classAt s k) _ (HV.out.drewN _)).mono ?_; rintro e w' ⟨rfl, rfl⟩; rw [HCT.out])) | ((with_reducible apply wpList_isG); rfl; first | ((with_reducible apply wpList_gen); rfl; rfl; rfl; exact NotVar.app; intro bb hbb; (simp only [Act.put]; (try simp only [List.setIfInBounds_toArray]); (try simp only [List.set_cons_succ]); (try simp only [List.set_cons_zero]))) | ((with_reducible apply wpList_gen2); rfl; rfl; rfl; exact NotVar.app; intro bb hbb; (simp only [Act.put]; (try simp only [List.setIfInBounds_toArray]); (try simp only [List.set_cons_succ]); (try simp only [List.set_cons_zero]))) | ((with_reducible apply wpList_gconst); rfl; rfl; rfl; simp only []) | ((with_reducible apply wpList_gskip); rfl; rfl; (first | exact Or.inl rfl | exact Or.inr rfl); (simp only [Act.put]; (try simp only [List.setIfInBounds_toArray]); (try simp only [List.set_cons_succ]); (try simp only [List.set_cons_zero]))) | ((with_reducible apply wpList_ggmove); rfl; rfl; rfl; rfl; exact (by first | exact Wants.bt _ | exact Wants.bf _ | exact Wants.gt _ _ | exact Wants.gf _ _); rfl; (simp only [Act.put]; (try simp only [List.setIfInBounds_toArray]); (try simp only [List.set_cons_succ]); (try simp only [List.set_cons_zero]))) | ((with_reducible apply wpList_gmove); rfl; rfl; rfl; rfl; exact (by first | exact Wants.bt _ | exact Wants.bf _ | exact Wants.gt _ _ | exact Wants.gf _ _); rfl; (simp only [Act.put]; (try simp only [List.setIfInBounds_toArray]); (try simp only [List.set_cons_succ]); (try simp only [List.set_cons_zero]))) | ((with_reducible apply wpList_isGPick); rfl; first | ((with_reducible apply wpList_gpick_and); rfl; rfl; rfl; exact (by first | exact Wants.bt _ | exact Wants.bf _ | exact Wants.gt _ _ | exact Wants.gf _ _); rfl; rfl; rfl; rfl; (simp only [Act.put]; (try simp only [List.setIfInBounds_toArray]); (try simp only [List.set_cons_succ]); (try simp only [List.set_cons_zero]))) | ((with_reducible apply wpList_gpick_or); rfl; rfl; rfl; exact (by first | exact Wants.bt _ | exact Wants.bf _ | exact Wants.gt _ _ | exact Wants.gf _ _); rfl; rfl; rfl; rfl; (simp only [Act.put]; (try simp only [List.setIfInBounds_toArray]); (try simp only [List.set_cons_succ]); (try simp only [List.set_cons_zero])))) | ((with_reducible apply wpList_guarded); rfl; rfl; rfl; exact (by first | exact Wants.bt _ | exact Wants.bf _ | exact Wants.gt _ _ | exact Wants.gf _ _); (intro hG; (try simp only [Bool.and_eq_true] at hG); (try simp only [Bool.not_eq_true'] at hG); (first | subst hG | (obtain ⟨h1, h2⟩ := hG; subst h1; subst h2) | (obtain ⟨⟨h1, h2⟩, h3⟩ := hG; subst h1; subst h2; subst h3)); (repeat (first | simp only [gv_true] | simp only [gv_false] | simp only [Bool.not_true] | simp only [Bool.not_false] | simp only [Bool.true_and] | simp only [Bool.false_and] | simp only [Bool.and_self])); go_simp; with_reducible rfl); (simp only [Act.put]; (try simp only [List.setIfInBounds_toArray]); (try simp only [List.set_cons_succ]); (try simp only [List.set_cons_zero]))) | ((with_reducible apply wpList_gsplit); rfl; rfl; rfl; all_goals (intro hb; subst hb; (repeat (first | simp only [gv_true] | simp only [gv_false] | simp only [Bool.not_true] | simp only [Bool.not_false] | simp only [Bool.true_and] | simp only [Bool.false_and] | simp only [Bool.and_self])))) | ((with_reducible apply wpList_gsplit2); rfl; rfl; rfl; all_goals (intro hb; (first | subst hb | ((try simp only [Bool.and_eq_true] at hb); (try simp only [Bool.not_eq_true'] at hb); obtain ⟨h1, h2⟩ := hb; subst h1; subst h2)); (repeat (first | simp only [gv_true] | simp only [gv_false] | simp only [Bool.not_true] | simp only [Bool.not_false] | simp only [Bool.true_and] | simp only [Bool.false_and] | simp only [Bool.and_self]))))) | ((with_reducible apply wpList_isPick); rfl; rfl; first | ((with_reducible apply wpList_pick_t); rfl; rfl; rfl; rfl; (simp only [Act.put]; (try simp only [List.setIfInBounds_toArray]); (try simp only [List.set_cons_succ]); (try simp only [List.set_cons_zero]))) | ((with_reducible apply wpList_pick_f); rfl; rfl; rfl; rfl; (simp only [Act.put]; (try simp only [List.setIfInBounds_toArray]); (try simp only [List.set_cons_succ]); (try simp only [List.set_cons_zero]))) | ((with_reducible apply wpList_pick_and); rfl; rfl; rfl; rfl; rfl; (simp only [Act.put]; (try simp only [List.setIfInBounds_toArray]); (try simp only [List.set_cons_succ]); (try simp only [List.set_cons_zero]))) | ((with_reducible apply wpList_pick_or); rfl; rfl; rfl; rfl; rfl; (simp only [Act.put]; (try simp only [List.setIfInBounds_toArray]); (try simp only [List.set_cons_succ]); (try simp only [List.set_cons_zero])))) | go_values | go_guarded | go_step | go_upon | go_back | dsimp only)
    go_roundw
    case rel => exact ⟨k + 1, q + n, by omega, by omega, by go_num, fun j a b => by
     by_cases e : j = k
     ·subst e; exact HCT.out
     ·exact hall.out j a (by omega), by first | rfl | rw [World.drewN_drewN]⟩
    case measure => simp [intOf]; omega
   | false =>
    have HCT := hid hct
    clear hct
    repeat' (first | (go_big_may; first
     | (go_at_call 165; refine (at_any S s k _ (H.out.drewN q) (by omega) (by omega) hs).mono ?_; rintro e w' ⟨rfl, n, rfl⟩; simp only [Int.toNat_natCast])
     | (go_at_call 173; refine (contains_any Z v cls (classAt s k) _ (HV.out.drewN _)).mono ?_; rintro e w' ⟨rfl, rfl⟩; rw [HCT.out])) | ((with_reducible apply wpList_isG); rfl; first | ((with_reducible apply wpList_gen); rfl; rfl; rfl; exact NotVar.app; intro bb hbb; (simp only [Act.put]; (try simp only [List.setIfInBounds_toArray]); (try simp only [List.set_cons_succ]); (try simp only [List.set_cons_zero]))) | ((with_reducible apply wpList_gen2); rfl; rfl; rfl; exact NotVar.app; intro bb hbb; (simp only [Act.put]; (try simp only [List.setIfInBounds_toArray]); (try simp only [List.set_cons_succ]); (try simp only [List.set_cons_zero]))) | ((with_reducible apply wpList_gconst); rfl; rfl; rfl; simp only []) | ((with_reducible apply wpList_gskip); rfl; rfl; (first | exact Or.inl rfl | exact Or.inr rfl); (simp only [Act.put]; (try simp only [List.setIfInBounds_toArray]); (try simp only [List.set_cons_succ]); (try simp only [List.set_cons_zero]))) | ((with_reducible apply wpList_ggmove); rfl; rfl; rfl; rfl; exact (by first | exact Wants.bt _ | exact Wants.bf _ | exact Wants.gt _ _ | exact Wants.gf _ _); rfl; (simp only [Act.put]; (try simp only [List.setIfInBounds_toArray]); (try simp only [List.set_cons_succ]); (try simp only [List.set_cons_zero]))) | ((with_reducible apply wpList_gmove); rfl; rfl; rfl; rfl; exact (by first | exact Wants.bt _ | exact Wants.bf _ | exact Wants.gt _ _ | exact Wants.gf _ _); rfl; (simp only [Act.put]; (try simp only [List.setIfInBounds_toArray]); (try simp only [List.set_cons_succ]); (try simp only [List.set_cons_zero]))) | ((with_reducible apply wpList_isGPick); rfl; first | ((with_reducible apply wpList_gpick_and); rfl; rfl; rfl; exact (by first | exact Wants.bt _ | exact Wants.bf _ | exact Wants.gt _ _ | exact Wants.gf _ _); rfl; rfl; rfl; rfl; (simp only [Act.put]; (try simp only [List.setIfInBounds_toArray]); (try simp only [List.set_cons_succ]); (try simp only [List.set_cons_zero]))) | ((with_reducible apply wpList_gpick_or); rfl; rfl; rfl; exact (by first | exact Wants.bt _ | exact Wants.bf _ | exact Wants.gt _ _ | exact Wants.gf _ _); rfl; rfl; rfl; rfl; (simp only [Act.put]; (try simp only [List.setIfInBounds_toArray]); (try simp only [List.set_cons_succ]); (try simp only [List.set_cons_zero])))) | ((with_reducible apply wpList_guarded); rfl; rfl; rfl; exact (by first | exact Wants.bt _ | exact Wants.bf _ | exact Wants.gt _ _ | exact Wants.gf _ _); (intro hG; (try simp only [Bool.and_eq_true] at hG); (try simp only [Bool.not_eq_true'] at hG); (first | subst hG | (obtain ⟨h1, h2⟩ := hG; subst h1; subst h2) | (obtain ⟨⟨h1, h2⟩, h3⟩ := hG; subst h1; subst h2; subst h3)); (repeat (first | simp only [gv_true] | simp only [gv_false] | simp only [Bool.not_true] | simp only [Bool.not_false] | simp only [Bool.true_and] | simp only [Bool.false_and] | simp only [Bool.and_self])); go_simp; with_reducible rfl); (simp only [Act.put]; (try simp only [List.setIfInBounds_toArray]); (try simp only [List.set_cons_succ]); (try simp only [List.set_cons_zero]))) | ((with_reducible apply wpList_gsplit); rfl; rfl; rfl; all_goals (intro hb; subst hb; (repeat (first | simp only [gv_true] | simp only [gv_false] | simp only [Bool.not_true] | simp only [Bool.not_false] | simp only [Bool.true_and] | simp only [Bool.false_and] | simp only [Bool.and_self])))) | ((with_reducible apply wpList_gsplit2); rfl; rfl; rfl; all_goals (intro hb; (first | subst hb | ((try simp only [Bool.and_eq_true] at hb); (try simp only [Bool.not_eq_true'] at hb); obtain ⟨h1, h2⟩ := hb; subst h1; subst h2)); (repeat (first | simp only [gv_true] | simp only [gv_false] | simp only [Bool.not_true] | simp only [Bool.not_false] | simp only [Bool.true_and] | simp only [Bool.false_and] | simp only [Bool.and_self]))))) | ((with_reducible apply wpList_isPick); rfl; rfl; first | ((with_reducible apply wpList_pick_t); rfl; rfl; rfl; rfl; (simp only [Act.put]; (try simp only [List.setIfInBounds_toArray]); (try simp only [List.set_cons_succ]); (try simp only [List.set_cons_zero]))) | ((with_reducible apply wpList_pick_f); rfl; rfl; rfl; rfl; (simp only [Act.put]; (try simp only [List.setIfInBounds_toArray]); (try simp only [List.set_cons_succ]); (try simp only [List.set_cons_zero]))) | ((with_reducible apply wpList_pick_and); rfl; rfl; rfl; rfl; rfl; (simp only [Act.put]; (try simp only [List.setIfInBounds_toArray]); (try simp only [List.set_cons_succ]); (try simp only [List.set_cons_zero]))) | ((with_reducible apply wpList_pick_or); rfl; rfl; rfl; rfl; rfl; (simp only [Act.put]; (try simp only [List.setIfInBounds_toArray]); (try simp only [List.set_cons_succ]); (try simp only [List.set_cons_zero])))) | go_values | go_guarded | go_step | go_upon | go_back | dsimp only)
    go_ret
    exact ⟨ret_int (by rw [Int.toNat_natCast, runEnd_eq hk0 (by omega) hall.out (fun _ => HCT.out)]), q + n, by first | rfl | rw [World.drewN_drewN]⟩
  ·obtain rfl : k = s.size := by omega
   have hlt' : decide ((s.size : Int) < (s.size : Int)) = false := by simp
   go_wp2
   go_ret
   exact ⟨ret_int (by rw [Int.toNat_natCast, runEnd_eq hk0 (Nat.le_refl _) hall.out (fun h => absurd h (Nat.lt_irrefl _))]), q, rfl⟩
/-- A slice literal's numbers, behind its block's laying. -/
theorem ints_lit (w : World) (zs : List Int) (t : TypeId) (hl : zs.length ≤ 1000) (hf : ∀ x ∈ zs, I64 x) : Ints (fun _ => True) (w.alloc (.cells (zs.map (.int .i64)).toArray t)) (.slice (some ⟨w.heap.size, 0, none⟩) zs.length zs.length) zs :=
 ⟨⟨_, _, rfl, Nat.le_refl _, by omega, by omega, fun _ => ⟨w.heap.size, 0, rfl, trivial, fun j u hu => by
  have hb : Blk (w.alloc (.cells (zs.map (.int .i64)).toArray t)) w.heap.size t _ := Blk.new w t _
  rw [hb.cell]; simpa using hu⟩⟩, hf⟩
def nlAt (s : ByteArray) (j : Nat) : Int := Lib.indexByte (s.extract j s.size).data.toList 10
theorem nlAt_ge (s : ByteArray) {j : Nat} (hj : j ≤ s.size) : -1 ≤ nlAt s j ∧ nlAt s j ≤ s.size - j := by
 have h : ∀ (l : List UInt8) (c : UInt8), -1 ≤ Lib.indexByte l c ∧ Lib.indexByte l c ≤ l.length := by
  intro l c
  induction l with
  | nil => simp [Lib.indexByte]
  | cons a r ih => unfold Lib.indexByte; split <;> (try split) <;> simp <;> omega
 have := h (s.extract j s.size).data.toList 10
 unfold nlAt
 refine ⟨this.1, Int.le_trans this.2 ?_⟩
 simp; omega
theorem nlAt_pos {s : ByteArray} {j : Nat} (h : classAt s j = 2) (h2 : ¬ nlAt s j < 0) : 1 ≤ nlAt s j := by
 have hlt : j < s.size := by
  rcases Nat.lt_or_ge j s.size with h' | h'
  ·exact h'
  ·rw [classAt_ge h'] at h; omega
 unfold nlAt at *
 have e : (s.extract j s.size).data.toList = s[j] :: (s.extract (j + 1) s.size).data.toList := by
  rw [Lib.extract_data, Lib.extract_data]
  have : s.data.toList.drop j = s[j] :: s.data.toList.drop (j + 1) := by
   rw [List.drop_eq_getElem_cons (by simpa using hlt)]
   congr 1
  simp only [this]
  have e2 : s.size - j = (s.size - (j + 1)) + 1 := by omega
  rw [e2, List.take_succ_cons]
 rw [e] at h2 ⊢
 rw [classAt_lt hlt] at h
 have hne : (s[j] == 10) = false := by
  rw [beq_eq_false_iff_ne]
  intro e10
  rw [e10] at h
  simp [classOf] at h
 unfold Lib.indexByte at h2 ⊢
 rw [hne] at h2 ⊢
 simp only [Bool.false_eq_true, if_false] at h2 ⊢
 split
 ·rename_i h3; rw [if_pos h3] at h2; omega
 ·rename_i h3
  rw [if_neg h3] at h2
  have h4 : Lib.indexByte (s.extract (j + 1) s.size).data.toList 10 ≠ -1 := by simpa using h3
  omega
/-- The end of the gaps, behind a run of blanks. -/
def gapT (s : ByteArray) : Nat → Nat → Nat
 | 0, j => j
 | f + 1, j => if classAt s j = 2 then (if nlAt s j < 0 then s.size else gapT s f (runEnd s [1] (j + (nlAt s j).toNat))) else j
/-- The end of the gaps that begin at an offset. -/
def gapS (s : ByteArray) (i : Nat) : Nat := gapT s (s.size + 1) (runEnd s [1] i)
set_option maxRecDepth 100000 in
set_option maxHeartbeats 2000000 in
theorem gap_any (S : Nat) (s : ByteArray) (i : Int) (w : World) (h : ScanAt w S s) (hi : 0 ≤ i) (hi2 : i ≤ s.size) (hs : s.size ≤ 140737488355328) :
  Calls Tryz.prog 147 #[.pointer (some ⟨S, 0, none⟩), .int .i64 i] w fun e w' => e = .returned (.int .i64 (gapS s i.toNat)) ∧ Below w.heap.size w w' := by
 obtain ⟨k0, rfl⟩ : ∃ k : Nat, i = k := ⟨i.toNat, by omega⟩
 have hS := h.lt
 have H := hid h
 clear h
 have hw1 := fun (W : World) (k : Nat) (hk : k ≤ s.size) (hsc : ScanAt W S s) => while_any S s k (fun _ => True) (.slice (some ⟨W.heap.size, 0, none⟩) 1 1) [1] (W.alloc (.cells #[.int .i64 1] 3)) (hsc.below (below1 W _) hsc.lt) (by omega) (by omega) hs (ints_lit W [1] 3 (by decide) (by simp [I64]))
 have HW := hid hw1
 clear hw1
 go_enter Tryz.func147, Tryz.ntmps147
 go_wp2_with fail
 refine (HW.out _ k0 (by omega) H.out).mono ?_
 rintro e w1 ⟨rfl, n1, rfl⟩
 simp only [Int.toNat_natCast]
 go_wp2
 have hr0 := runEnd_spec s [1] (i := k0) (by omega)
 have hbw : Below w.heap.size w ((w.alloc (.cells #[.int .i64 1] 3)).drewN n1) := below_drewN' (below1 w _) n1
 go_loopw [1] (fun i wr => ∃ j f : Nat, j ≤ s.size ∧ i = .int .i64 j ∧ Hid (gapT s f j = gapS s k0) ∧ s.size < f + j ∧ Below w.heap.size w wr) (fun i _ => s.size + 1 - (intOf i).toNat)
 case atStart => exact ⟨_, s.size + 1, hr0.2.1, rfl, rfl, by omega, hbw⟩
 case round =>
  clear hr0 hbw
  obtain ⟨j, f, hj, rfl, hg, hf, hbel⟩ := hrel
  have hsc := H.out.below hbel hS
  have s1 := hsc.1
  have HSC := hid hsc
  have HSC2 := hid (fun b => (hsc.2 b))
  clear hsc
  obtain ⟨f, rfl⟩ : ∃ f', f = f' + 1 := ⟨f - 1, by omega⟩
  by_cases hc2 : classAt s j = 2
  ·have hlt : j < s.size := by
    rcases Nat.lt_or_ge j s.size with h' | h'
    ·exact h'
    ·rw [classAt_ge h'] at hc2; omega
   have hix : ∀ W : World, Calls Tryz.prog 166 #[.string (s.extract j s.size), .int .u8 10] W fun e w' => e = .returned (.int .i64 (nlAt s j)) ∧ W = w' := fun W => by
    refine (Tryz.strings_IndexByte (s.extract j s.size) 10 W).mono ?_
    rintro e w' ⟨rfl, rfl⟩
    exact ⟨rfl, rfl⟩
   have HIX := hid hix
   clear hix
   have hnl := nlAt_ge s hj
   have h2 : ((classAt s j) == (2 : Int)) = true := by simp [hc2]
   have HC2 := hid hc2
   by_cases hneg : nlAt s j < 0
   ·have HG : Hid (gapT s (f + 1) j = s.size) := by unfold gapT; rw [if_pos hc2, if_pos hneg]; rfl
    clear hc2
    go_wp2_with (first
     | (go_at_call 165; refine (at_any S s j _ HSC.out (by omega) (by omega) hs).mono ?_; rintro e w' ⟨rfl, n, rfl⟩; simp only [Int.toNat_natCast])
     | (go_at_call 166; refine (HIX.out _).mono ?_; rintro e w' ⟨rfl, rfl⟩))
    go_ret
    exact ⟨ret_int (by rw [Int.toNat_natCast, ← hg.out, HG.out]), below_drewN' hbel _⟩
   ·have hp := nlAt_pos hc2 hneg
    obtain ⟨m, hm⟩ : ∃ m : Nat, nlAt s j = m := ⟨(nlAt s j).toNat, by omega⟩
    have HG : Hid (gapT s (f + 1) j = gapT s f (runEnd s [1] (j + m))) := by rw [gapT, if_pos hc2, if_neg hneg, hm, Int.toNat_natCast]; rfl
    rw [hm] at hnl hp hneg
    have HIX' := hid (fun W => hm ▸ HIX.out W)
    have hle : j + m ≤ s.size := by omega
    have hr := runEnd_spec s [1] hle
    clear hc2 hm HIX
    go_wp2_with (first
     | (go_at_call 165; refine (at_any S s j _ HSC.out (by omega) (by omega) hs).mono ?_; rintro e w' ⟨rfl, n, rfl⟩; simp only [Int.toNat_natCast])
     | (go_at_call 166; refine (HIX'.out _).mono ?_; rintro e w' ⟨rfl, rfl⟩))
    refine (HW.out _ (j + m) hle (HSC.out.drewN _)).mono ?_
    rintro e w2 ⟨rfl, n2, rfl⟩
    simp only [Int.toNat_natCast]
    go_wp2
    go_roundw
    case rel => exact ⟨_, f, hr.2.1, rfl, by rw [Hid, ← HG.out, hg.out], by omega, below_drewN' ((below_drewN' hbel _).alloc (by simp; exact hbel.size) _) _⟩
    case measure => simp [intOf]; omega
  ·have h2 : ((classAt s j) == (2 : Int)) = false := by simp [hc2]
   have HG : Hid (gapT s (f + 1) j = j) := by rw [gapT, if_neg hc2]; rfl
   clear hc2
   go_wp2_with (go_at_call 165; refine (at_any S s j _ HSC.out (by omega) (by omega) hs).mono ?_; rintro e w' ⟨rfl, n, rfl⟩; simp only [Int.toNat_natCast])
   go_ret
   exact ⟨ret_int (by rw [Int.toNat_natCast, ← hg.out, HG.out]), below_drewN' hbel _⟩
end Go.Proofs.YtcigjmlileckhaaGreatDoor
/- A quiet call behind a quiet region. Over any program. -/
namespace Go.Proofs.YtcigjmlileckhaaGreatDoor
open Go.RowKit
theorem quiet_add {P : Program} {f : FuncId} {args : Array Value} {w : World} {a n : Nat} {v : Value}
  (h : Calls P f args (w.drewN (a + n)) fun e w' => e = .returned v ∧ ∃ m, w' = (w.drewN (a + n)).drewN m) :
  Calls P f args (w.drewN (a + n)) fun e w'' => e = .returned v ∧ ∃ m, w'' = w.drewN (a + m) :=
 h.mono fun _ _ ⟨he, m, hm⟩ => ⟨he, n + m, by rw [hm, World.drewN_drewN, Nat.add_assoc]⟩
theorem quiet_add_left {P : Program} {f : FuncId} {args : Array Value} {w : World} {a n : Nat} {v : Value}
  (h : Calls P f args (w.drewN (a + n)) fun e w' => e = .returned v ∧ w.drewN (a + n) = w') :
  Calls P f args (w.drewN (a + n)) fun e w'' => e = .returned v ∧ ∃ m, w'' = w.drewN (a + m) :=
 h.mono fun _ _ ⟨he, hm⟩ => ⟨he, n, hm.symm⟩
theorem quiet_left {P : Program} {f : FuncId} {args : Array Value} {w : World} {n : Nat} {v : Value}
  (h : Calls P f args (w.drewN n) fun e w' => e = .returned v ∧ w.drewN n = w') : Calls P f args (w.drewN n) fun e w'' => e = .returned v ∧ ∃ m, w'' = w.drewN m :=
 h.mono fun _ _ ⟨he, hm⟩ => ⟨he, n, hm.symm⟩
theorem quiet_ex {P : Program} {f : FuncId} {args : Array Value} {w : World} {n : Nat} {v : Value}
  (h : Calls P f args (w.drewN n) fun e w' => e = .returned v ∧ ∃ m, w' = (w.drewN n).drewN m) : Calls P f args (w.drewN n) fun e w'' => e = .returned v ∧ ∃ m, w'' = w.drewN m :=
 h.mono fun _ _ ⟨he, m, hm⟩ => ⟨he, n + m, by rw [hm, World.drewN_drewN]⟩
end Go.Proofs.YtcigjmlileckhaaGreatDoor
/- Walks of strings.IndexRune and strings.IndexAny at the two bytes that the lexer looks for. -/
namespace Go.Proofs.YtcigjmlileckhaaGreatDoor
open Go.RowKit
def quotes : ByteArray := ⟨#[34, 10]⟩
set_option maxRecDepth 100000 in
set_option maxHeartbeats 1000000 in
theorem indexRune_err (q : ByteArray) (hq : ∀ b ∈ q.data.toList, b.toNat < 128) (w : World) :
  Calls Tryz.prog 177 #[.string q, .int .i32 65533] w fun e w' => e = .returned (.int .i64 (-1)) ∧ Below w.heap.size w w' := by
 have HQ := hid hq
 clear hq
 go_enter Tryz.func177, Tryz.ntmps177
 go_wp2
 go_loopg [5] q.size (fun g _ wx => ∃ i : Nat, i + g = q.size ∧ wx = w.iter q i)
 case atStart => exact ⟨0, by omega, rfl⟩
 case round =>
  obtain ⟨i, hig, rfl⟩ := hrel
  cases gk with
  | zero =>
   obtain rfl : i = q.size := by omega
   have hnx := fun ty => run_next_end (P := Tryz.prog) w q q.size ty (by omega)
   go_wp2
   go_ret
   exact ⟨rfl, (Below.refl _ _).alloc (Nat.le_refl _) _⟩
  | succ g =>
   have hi : i < q.size := by omega
   obtain ⟨x, hx⟩ : ∃ x : UInt8, q[i]'hi = x := ⟨_, rfl⟩
   have hx128 : x.toNat < 128 := HQ.out x (List.mem_of_getElem? (by rw [getElem_toList hi, hx]))
   have hnx := fun ty => run_next_ascii (P := Tryz.prog) w q i ty hi (by rw [hx]; exact hx128)
   rw [hx] at hnx
   clear hx
   have hne : (((x.toNat : Nat) : Int) == 65533) = false := by rw [beq_eq_false_iff_ne]; omega
   go_wp2
   go_roundg g
   case measure => omega
   case rel => exact ⟨i + 1, by omega, rfl⟩
theorem indexByte_nil (w : World) (c : Int) (s : ByteArray) (hs : s.size = 0) : Calls Tryz.prog 166 #[.string s, .int .u8 c] w fun e w' => e = .returned (.int .i64 (-1)) ∧ w = w' := by
 refine (Tryz.strings_IndexByte s c w).mono ?_
 rintro e w' ⟨rfl, rfl⟩
 have : s.data.toList = [] := List.eq_nil_of_length_eq_zero (by simpa using hs)
 rw [this]
 exact ⟨rfl, rfl⟩
set_option maxRecDepth 100000 in
set_option maxHeartbeats 1000000 in
theorem indexRune_high (q : ByteArray) (hq : ∀ b ∈ q.data.toList, b.toNat < 128) (hq2 : q.size = 2) (r : Int) (h1 : 128 ≤ r) (h2 : r ≤ 2147483647) (w : World) :
  Calls Tryz.prog 177 #[.string q, .int .i32 r] w fun e w' => e = .returned (.int .i64 (-1)) ∧ Below w.heap.size w w' := by
 by_cases he : r = 65533
 ·subst he; exact indexRune_err q hq w
 have hne : (r == 65533) = false := by simpa using he
 have hn128 : ¬ r < 128 := by omega
 cases hv : Lib.validRune r with
 | false =>
  have HV := hid hv
  clear hv he hq
  go_enter Tryz.func177, Tryz.ntmps177
  go_wp2_with (go_at_call 189; refine (Tryz.utf8_ValidRune _ _).mono ?_; rintro e w' ⟨rfl, rfl⟩; rw [HV.out])
  go_ret
  exact ⟨rfl, Below.refl _ _⟩
 | true =>
  have HV := hid hv
  have hv8 : Utf8.valid r = true := by
   rw [validRune_eq]
   have := hv
   unfold Lib.validRune at this
   unfold validRune
   simp only [decide_eq_true_eq] at this ⊢
   exact this
  obtain ⟨e1, e2, e3⟩ := encode_facts r hv8 h1
  have he3 := e3 (by omega)
  have HQ := hid hq
  clear hv he hv8 hq e3
  have e2' : (Utf8.encode r).size ≤ 9223372036854775807 := by omega
  by_cases h3 : 3 ≤ (Utf8.encode r).size
  ·go_enter Tryz.func177, Tryz.ntmps177
   go_wp2_with (go_at_call 189; refine (Tryz.utf8_ValidRune _ _).mono ?_; rintro e w' ⟨rfl, hw⟩; subst hw; rw [HV.out])
   go_step3
   go_wp2
   refine wp_loop_once ?_
   have hsz : ¬ ((Utf8.encode r).size : Int) - 1 < 2 := by omega
   go_wp2
   go_ret
   exact ⟨rfl, Below.refl _ _⟩
  ·have h22 : (Utf8.encode r).size = 2 := by omega
   have hq1 : 1 < q.size := by omega
   have hr1 : 1 < (Utf8.encode r).size := by omega
   have hx : q[1].toNat < 128 := HQ.out _ (List.mem_of_getElem? (getElem_toList hq1))
   have hy : 128 ≤ ((Utf8.encode r)[1]).toNat := by simpa [h22] using he3
   have hxy : (((q[1].toNat : Nat) : Int) != (((Utf8.encode r)[1].toNat : Nat) : Int)) = true := by
    rw [bne_iff_ne]; omega
   clear he3 h3 e1 e2 e2'
   go_enter Tryz.func177, Tryz.ntmps177
   go_wp2_with (go_at_call 189; refine (Tryz.utf8_ValidRune _ _).mono ?_; rintro e w' ⟨rfl, hw⟩; subst hw; rw [HV.out])
   go_step3
   go_wp2
   refine wp_loop_once ?_
   go_wp2
   go_step3
   go_wp2
   go_quiet (fail)
   go_wp2
   go_quiet ((go_at_call 166; exact quiet_add_left (indexByte_nil _ _ _ (by simp))))
   go_wp2
   rw [Exit.noGoto_ret]
   go_wp2
   (try (rw [Exit.noGoto_ret]; go_wp2))
   go_ret
   exact ⟨rfl, below_drewN' (Below.refl _ _) _⟩
theorem cont_ge {x : UInt8} (h : (x.toNat / 64 == 2) = true) : 128 ≤ x.toNat := by
 have : x.toNat / 64 = 2 := by simpa using h
 omega
theorem get_bang (s : ByteArray) (i : Nat) (h : i < s.size) : s.get! i = s[i] := by
 have := get_at s i h
 simpa using this
/-- A sequence that begins with no ASCII byte holds none. -/
theorem decode_span (s : ByteArray) (i : Nat) (h : i < s.size) (ha : 128 ≤ (s[i]).toNat) :
  i + (Utf8.decode s i).2 ≤ s.size ∧ ∀ j, i ≤ j → j < i + (Utf8.decode s i).2 → ∃ hj : j < s.size, 128 ≤ (s[j]).toNat := by
 have key : ∀ k, (decide (i + k < s.size) && (s.get! (i + k)).toNat / 64 == 2) = true → ∃ hj : i + k < s.size, 128 ≤ (s[i + k]).toNat := by
  intro k hk
  rw [Bool.and_eq_true] at hk
  have hlt : i + k < s.size := by simpa using hk.1
  exact ⟨hlt, cont_ge (by rw [← get_bang s _ hlt]; exact hk.2)⟩
 have hn : ¬ (s.get! (i + 0)).toNat < 128 := by rw [get_at s i h]; omega
 unfold Utf8.decode
 simp only [hn, if_false]
 have one : i + 1 ≤ s.size ∧ ∀ j, i ≤ j → j < i + 1 → ∃ hj : j < s.size, 128 ≤ (s[j]).toNat :=
  ⟨h, fun j a b => by
   obtain rfl : j = i := by omega
   exact ⟨h, ha⟩⟩
 split
 ·rename_i h1
  rw [Bool.and_eq_true] at h1
  obtain ⟨l1, g1⟩ := key 1 h1.2
  have two : i + 2 ≤ s.size ∧ ∀ j, i ≤ j → j < i + 2 → ∃ hj : j < s.size, 128 ≤ (s[j]).toNat :=
   ⟨l1, fun j a b => by
    rcases (by omega : j = i ∨ j = i + 1) with rfl | rfl
    ·exact ⟨h, ha⟩
    ·exact ⟨l1, g1⟩⟩
  split
  ·exact two
  ·exact one
 ·split
  ·rename_i h1
   rw [Bool.and_eq_true, Bool.and_eq_true] at h1
   obtain ⟨l1, g1⟩ := key 1 h1.1.2
   obtain ⟨l2, g2⟩ := key 2 h1.2
   have three : i + 3 ≤ s.size ∧ ∀ j, i ≤ j → j < i + 3 → ∃ hj : j < s.size, 128 ≤ (s[j]).toNat :=
    ⟨l2, fun j a b => by
     rcases (by omega : j = i ∨ j = i + 1 ∨ j = i + 2) with rfl | rfl | rfl
     ·exact ⟨h, ha⟩
     ·exact ⟨l1, g1⟩
     ·exact ⟨l2, g2⟩⟩
   split
   ·exact three
   ·exact one
  ·split
   ·rename_i h1
    rw [Bool.and_eq_true, Bool.and_eq_true, Bool.and_eq_true] at h1
    obtain ⟨l1, g1⟩ := key 1 h1.1.1.2
    obtain ⟨l2, g2⟩ := key 2 h1.1.2
    obtain ⟨l3, g3⟩ := key 3 h1.2
    have four : i + 4 ≤ s.size ∧ ∀ j, i ≤ j → j < i + 4 → ∃ hj : j < s.size, 128 ≤ (s[j]).toNat :=
     ⟨l3, fun j a b => by
      rcases (by omega : j = i ∨ j = i + 1 ∨ j = i + 2 ∨ j = i + 3) with rfl | rfl | rfl | rfl
      ·exact ⟨h, ha⟩
      ·exact ⟨l1, g1⟩
      ·exact ⟨l2, g2⟩
      ·exact ⟨l3, g3⟩⟩
    split
    ·exact four
    ·exact one
   ·exact one
theorem noAny_span {l chars : List UInt8} : ∀ (n i : Nat), Lib.NoAny l chars i → (∀ j, i ≤ j → j < i + n → ∃ x, l[j]? = some x ∧ chars.contains x = false) → Lib.NoAny l chars (i + n)
 | 0, _, h, _ => h
 | n + 1, i, h, hx => by
  obtain ⟨x, h1, h2⟩ := hx i (Nat.le_refl _) (by omega)
  have := noAny_span n (i + 1) (h.succ h1 h2) (fun j a b => hx j (by omega) (by omega))
  rwa [show i + 1 + n = i + (n + 1) from by omega] at this
theorem run_next_at {P : Program} (w : World) (B : Nat) (s : ByteArray) (pos : Nat) (ty : TypeId) (hB : w.heap[B]? = some (.stringIter s pos)) (h : pos < s.size) :
  (Instr.next (.pointer (some ⟨B, 0, none⟩)) true ty).run P w =
   .ok (.tuple #[.bool true, .int .i64 pos, .int .i32 (Utf8.decode s pos).1]) (ChangeMaps.setBlock w B (.stringIter s (pos + (Utf8.decode s pos).2))) := by
 simp only [Instr.next, getObj, setObj, Sem.run_bind, Sem.run, hB, Result.andThen, h, if_true]
 simp [goInt, ChangeMaps.setBlock]
theorem run_next_at_end {P : Program} (w : World) (B : Nat) (s : ByteArray) (pos : Nat) (ty : TypeId) (hB : w.heap[B]? = some (.stringIter s pos)) (h : ¬ pos < s.size) :
  (Instr.next (.pointer (some ⟨B, 0, none⟩)) true ty).run P w = .ok (.tuple #[.bool false]) w := by
 simp [Instr.next, getObj, Sem.run, hB, h]
theorem setBlock_facts {w : World} {B : Nat} {o o' : Obj} (h : w.heap[B]? = some o) : (ChangeMaps.setBlock w B o').heap[B]? = some o' ∧ Keeps (fun b => b ≠ B) w (ChangeMaps.setBlock w B o') ∧ (ChangeMaps.setBlock w B o').heap.size = w.heap.size := by
 have hlt := (Array.getElem?_eq_some_iff.1 h).1
 refine ⟨by simp [ChangeMaps.setBlock, hlt], ⟨rfl, rfl, rfl, by simp [ChangeMaps.setBlock], fun k _ hk => ?_⟩, by simp [ChangeMaps.setBlock]⟩
 simp only [ChangeMaps.setBlock, Array.getElem?_setIfInBounds]
 rw [if_neg (fun e => hk e.symm)]
set_option maxHeartbeats 2000000 in
set_option maxRecDepth 100000 in
theorem indexAny_short (q : ByteArray) (hq : ∀ b ∈ q.data.toList, b.toNat < 128) (hq2 : q.size = 2) (s : ByteArray) (h8 : s.size ≤ 8) (w : World) :
  Calls Tryz.prog 168 #[.string s, .string q] w fun e w' => e = .returned (.int .i64 (Lib.indexAny s.data.toList q.data.toList)) ∧ Below w.heap.size w w' := by
 have HQ := hid hq
 clear hq
 have hemp : q.toList.isEmpty = false := by
  rw [ByteArray.toList_eq]
  cases h : q.data.toList with
  | nil =>
   have hl : q.data.toList.length = 2 := by simpa using hq2
   rw [h] at hl; simp at hl
  | cons _ _ => rfl
 have hn1 : ((q.size : Int) == 1) = false := beq_eq_false_iff_ne.2 (by omega)
 have h8z : decide ((8 : Int) < (s.size : Int)) = false := decide_eq_false (by omega)
 go_enter Tryz.func168, Tryz.ntmps168
 go_wp2_with (go_at_call 178; refine (Tryz.strings_shouldUseASCIISet _ _).mono ?_; rintro e w' ⟨rfl, hw⟩; rw [hw, h8z])
 go_loopg [9, 10] s.size (fun g _ _ wx => ∃ i : Nat, i ≤ s.size ∧ s.size ≤ i + g ∧ Below w.heap.size w wx ∧ wx.heap[w.heap.size]? = some (.stringIter s i) ∧ Hid (Lib.NoAny s.data.toList q.data.toList i))
 case atStart => exact ⟨0, Nat.zero_le _, Nat.le_add_left _ _, below1 w _, World.iter_heap _ _ _, Lib.NoAny.zero _ _⟩
 case round =>
  obtain ⟨i, hi0, hig, hbel, hit, hno⟩ := hrel
  by_cases hi : i < s.size
  ·obtain ⟨g, rfl⟩ : ∃ g', gk = g' + 1 := ⟨gk - 1, by omega⟩
   have hnx := fun ty => run_next_at (P := Tryz.prog) wr w.heap.size s i ty hit hi
   obtain ⟨f1, f2, f3⟩ := setBlock_facts (o' := .stringIter s (i + (Utf8.decode s i).2)) hit
   have hbel2 : Below w.heap.size w (ChangeMaps.setBlock wr w.heap.size (.stringIter s (i + (Utf8.decode s i).2))) := below_keeps_ne hbel f2 (Nat.le_refl _) hbel.size
   generalize ChangeMaps.setBlock wr w.heap.size (.stringIter s (i + (Utf8.decode s i).2)) = w1 at *
   have hlt1 : w.heap.size < w1.heap.size := (Array.getElem?_eq_some_iff.1 f1).1
   by_cases hx : (s[i]).toNat < 128
   ·have hd := decode_ascii s i hi hx
    have hdl := congrArg Prod.fst hd
    have hdr := congrArg Prod.snd hd
    simp only at hdl hdr
    rw [hdl] at hnx
    rw [hdr] at f1
    have hxl : s.data.toList[i]? = some s[i] := getElem_toList hi
    have Hx := hid hxl
    clear hxl hd hdl hdr
    generalize s[i] = x at *
    have hcon := Lib.contains_iff_indexByte q.data.toList x
    have hback : ((x.toNat : Int)).toNat.toUInt8 = x := by simp
    have HBK := hid hback
    clear hback
    cases hin : q.data.toList.contains x with
    | false =>
     have HIN := hid hin
     rw [hin] at hcon
     have hlt : ¬ ((0 : Int) ≤ Lib.indexByte q.data.toList x) := of_decide_eq_false hcon.symm
     clear hcon hin
     go_wp2_with (go_at_call 177; refine (Tryz.strings_IndexRune_ascii _ _ _ (by omega) (by omega)).mono ?_; rintro e w' ⟨rfl, hw⟩; rw [hw, HBK.out])
     go_roundg g
     case measure => omega
     case rel => exact ⟨i + 1, by omega, by omega, hbel2, f1, hno.out.succ Hx.out HIN.out⟩
    | true =>
     have HIN := hid hin
     rw [hin] at hcon
     have hge : (0 : Int) ≤ Lib.indexByte q.data.toList x := of_decide_eq_true hcon.symm
     clear hcon hin
     go_wp2_with (go_at_call 177; refine (Tryz.strings_IndexRune_ascii _ _ _ (by omega) (by omega)).mono ?_; rintro e w' ⟨rfl, hw⟩; rw [hw, HBK.out])
     go_ret
     exact ⟨ret_int (by rw [Lib.indexAny_hit hno.out Hx.out HIN.out]), hbel2⟩
   ·obtain ⟨d1, d2⟩ := decode_high s i hi (by omega)
    have d3 := decode_le s i
    obtain ⟨d4, d5⟩ := decode_span s i hi (by omega)
    have hno2 : Lib.NoAny s.data.toList q.data.toList (i + (Utf8.decode s i).2) := noAny_span _ i hno.out (fun j a b => by
     obtain ⟨hj, hj2⟩ := d5 j a b
     refine ⟨s[j], getElem_toList hj, ?_⟩
     cases hc : q.data.toList.contains s[j] with
     | false => rfl
     | true =>
      have := HQ.out s[j] (by simpa using hc)
      omega)
    have HNO := hid hno2
    clear hno2 d5 hno
    generalize (Utf8.decode s i).1 = r at *
    generalize (Utf8.decode s i).2 = n at *
    have hr2 : (r : Int) ≤ 2147483647 := by omega
    go_wp2_with (go_at_call 177; refine (indexRune_high q HQ.out hq2 _ (by omega) hr2 _).mono ?_; rintro e w2 ⟨rfl, hb2⟩)
    go_roundg g
    case measure => omega
    case rel => exact ⟨i + n, d4, by omega, hbel2.trans (hb2.mono (by omega)), (hb2.block _ hlt1).trans f1, HNO.out⟩
  ·obtain rfl : i = s.size := by omega
   have hnx := fun ty => run_next_at_end (P := Tryz.prog) wr w.heap.size s s.size ty hit hi
   go_wp2
   go_ret
   exact ⟨ret_int (by rw [Lib.indexAny_none (by simpa using hno.out)]), hbel⟩
theorem Tryz.zero206 (w : World) : (zeroValue 206).run Tryz.prog w = .ok (.agg (Array.replicate 256 (.bool false))) w := by kernel_rfl
theorem indexAny_q (q : ByteArray) (hq : ∀ b ∈ q.data.toList, b.toNat < 128) (hq2 : q.size = 2) (s : ByteArray) (hs : s.size ≤ 20000) (w : World) :
  Calls Tryz.prog 168 #[.string s, .string q] w fun e w' => e = .returned (.int .i64 (Lib.indexAny s.data.toList q.data.toList)) ∧ Below w.heap.size w w' := by
 by_cases h8 : s.size ≤ 8
 ·exact indexAny_short q hq hq2 s h8 w
 ·refine (Tryz.strings_IndexAny_long Tryz.zero206 s q w (by omega) (by omega) (by omega) (by omega) (fun j b hb => hq b (List.mem_of_getElem? hb))).mono ?_
  rintro e w' ⟨rfl, rfl⟩
  exact ⟨rfl, .alloc (.alloc (.refl _ _) (Nat.le_refl _) _) (by simp) _⟩
end Go.Proofs.YtcigjmlileckhaaGreatDoor
