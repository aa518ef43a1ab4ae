/- Walks of package formula: formed. Walks of package formula: Check. -/
import Derived.Test.YtcigjmlileckhaaGreatDoorM20
import Derived.Test.YtcigjmlileckhaaGreatDoorM21
import Derived.Test.YtcigjmlileckhaaGreatDoorM5
/- Walks of package formula: formed. -/
namespace Go.Proofs.YtcigjmlileckhaaGreatDoor
open Go.RowKit
/-- Is a node of a formula well formed, looking at it alone? -/
def formedS (f : Fm) : Bool :=
 if f.op = 3 then decide (f.kids.length = 0) && decide (1 ≤ f.cmp) && decide (f.cmp ≤ 6) && identS f.name && !keyS f.name
 else if f.name ≠ ⟨#[]⟩ ∨ f.cmp ≠ 0 ∨ f.num ≠ 0 then false
 else if f.op = 1 ∨ f.op = 2 then decide (f.kids.length = 0)
 else if f.op = 4 then decide (f.kids.length = 1)
 else (decide (f.op = 5) || decide (f.op = 6)) && decide (2 ≤ f.kids.length)
theorem formedS_test {f : Fm} (h : f.op = 3) : formedS f = (decide (f.kids.length = 0) && decide (1 ≤ f.cmp) && decide (f.cmp ≤ 6) && identS f.name && !keyS f.name) := if_pos h
theorem formedS_tail {f : Fm} (h : f.op ≠ 3) : formedS f = 
 if f.name ≠ ⟨#[]⟩ ∨ f.cmp ≠ 0 ∨ f.num ≠ 0 then false
 else if f.op = 1 ∨ f.op = 2 then decide (f.kids.length = 0)
 else if f.op = 4 then decide (f.kids.length = 1)
 else (decide (f.op = 5) || decide (f.op = 6)) && decide (2 ≤ f.kids.length) := by
 unfold formedS; rw [if_neg h]
theorem isEmpty_dec (s : ByteArray) : s.toList.isEmpty = decide (s = ⟨#[]⟩) := by
 rw [← toList_beq]
 have : (⟨#[]⟩ : ByteArray).toList = [] := by rw [ByteArray.toList_eq]
 rw [this]
 cases s.toList <;> rfl
set_option maxRecDepth 100000 in
set_option maxHeartbeats 2000000 in
theorem formed_any (Z : Zone) (f : Fm) (cs : List Value) (w : World) (hf : FmR Z w f cs) :
  Calls Tryz.prog 52 #[.agg cs.toArray] w fun e w' => e = .returned (.bool (formedS f)) ∧ Below w.heap.size w w' := by
 have hnm : f.name.size ≤ 140737488355328 := by cases f; unfold FmR at hf; exact hf.2.1
 have hkl : f.kids.length ≤ 4611686018427387904 := by cases f; unfold FmR at hf; obtain ⟨_, _, _, _, A, cap, _, _, _, h, _⟩ := hf; simp only [Fm.kids]; omega
 obtain ⟨A, cap, rfl⟩ := FmR.form hf
 clear hf
 have HT := hid (@formedS_test f)
 have HU := hid (@formedS_tail f)
 have HI := hid (fun w => identifier_any f.name w hnm)
 by_cases h3 : f.op = 3
 ·have HF := hid (HT.out h3)
  have h3' : (f.op == (3 : Int)) = true := by simp [h3]
  clear HU HT
  generalize f.kids.length = n at *
  have hend : ∀ b, formedS f = b → ∀ w', Below w.heap.size w w' → (Ending.returned (.bool b) = .returned (.bool (formedS f)) ∧ Below w.heap.size w w') := fun b e w' h => ⟨by rw [e], h⟩
  have HE := hid hend
  clear hend
  by_cases h0 : n = 0
  ·subst h0
   by_cases h1 : 1 ≤ f.cmp
   ·by_cases h2 : f.cmp ≤ 6
    ·go_enter Tryz.func52, Tryz.ntmps52
     go_wp2_with fail
     refine (HI.out _).mono ?_
     rintro e w1 ⟨rfl, hb1⟩
     obtain ⟨hce, hfr⟩ := bcell hb1
     have hbw : Below w.heap.size w w1 := (below1 w _).trans (hb1.mono (by simp))
     have HK := hid (key_any f.name w1)
     cases hid0 : identS f.name
     ·have HG := hid (HE.out false (by rw [HF.out, hid0]; simp))
      clear HF HE
      go_wp2
      go_ret
      exact HG.out _ hbw
     ·dsimp only
      go_wp2_with fail
      refine HK.out.mono ?_
      rintro e w2 ⟨rfl, hb2⟩
      have HG := hid (HE.out (!keyS f.name) (by rw [HF.out, hid0]; simp [h1, h2]))
      go_wp2
      go_ret
      exact HG.out _ (hbw.trans (hb2.mono hbw.size))
    ·have HG := hid (HE.out false (by rw [HF.out]; simp [h2]))
     clear HF HE HI
     go_enter Tryz.func52, Tryz.ntmps52
     go_wp2
     go_ret
     exact HG.out _ ((Below.refl _ _).alloc (Nat.le_refl _) _)
   ·have HG := hid (HE.out false (by rw [HF.out]; simp [h1]))
    clear HF HE HI
    go_enter Tryz.func52, Tryz.ntmps52
    go_wp2
    go_ret
    exact HG.out _ ((Below.refl _ _).alloc (Nat.le_refl _) _)
  ·have HG := hid (HE.out false (by rw [HF.out]; simp [h0]))
   have h0' : ((n : Int) == 0) = false := by simp; omega
   clear HF HE HI
   go_enter Tryz.func52, Tryz.ntmps52
   go_wp2
   go_ret
   exact HG.out _ ((Below.refl _ _).alloc (Nat.le_refl _) _)
 ·have HF := hid (HU.out h3)
  have h3' : (f.op == (3 : Int)) = false := by simp [h3]
  clear h3
  generalize f.kids.length = n at *
  go_enter Tryz.func52, Tryz.ntmps52
  repeat' (first | (go_big_may; fail) | ((with_reducible apply wpList_isG); rfl; first | ((with_reducible apply wpList_gen); rfl; rfl; rfl; exact NotVar.app; intro bb hbb; (simp only [Act.put]; (try simp only [List.setIfInBounds_toArray]); (try simp only [List.set_cons_succ]); (try simp only [List.set_cons_zero]))) | ((with_reducible apply wpList_gen2); rfl; rfl; rfl; exact NotVar.app; intro bb hbb; (simp only [Act.put]; (try simp only [List.setIfInBounds_toArray]); (try simp only [List.set_cons_succ]); (try simp only [List.set_cons_zero]))) | ((with_reducible apply wpList_gconst); rfl; rfl; rfl; simp only []) | ((with_reducible apply wpList_gskip); rfl; rfl; (first | exact Or.inl rfl | exact Or.inr rfl); (simp only [Act.put]; (try simp only [List.setIfInBounds_toArray]); (try simp only [List.set_cons_succ]); (try simp only [List.set_cons_zero]))) | ((with_reducible apply wpList_ggmove); rfl; rfl; rfl; rfl; exact (by first | exact Wants.bt _ | exact Wants.bf _ | exact Wants.gt _ _ | exact Wants.gf _ _); rfl; (simp only [Act.put]; (try simp only [List.setIfInBounds_toArray]); (try simp only [List.set_cons_succ]); (try simp only [List.set_cons_zero]))) | ((with_reducible apply wpList_gmove); rfl; rfl; rfl; rfl; exact (by first | exact Wants.bt _ | exact Wants.bf _ | exact Wants.gt _ _ | exact Wants.gf _ _); rfl; (simp only [Act.put]; (try simp only [List.setIfInBounds_toArray]); (try simp only [List.set_cons_succ]); (try simp only [List.set_cons_zero]))) | ((with_reducible apply wpList_isGPick); rfl; first | ((with_reducible apply wpList_gpick_and); rfl; rfl; rfl; exact (by first | exact Wants.bt _ | exact Wants.bf _ | exact Wants.gt _ _ | exact Wants.gf _ _); rfl; rfl; rfl; rfl; (simp only [Act.put]; (try simp only [List.setIfInBounds_toArray]); (try simp only [List.set_cons_succ]); (try simp only [List.set_cons_zero]))) | ((with_reducible apply wpList_gpick_or); rfl; rfl; rfl; exact (by first | exact Wants.bt _ | exact Wants.bf _ | exact Wants.gt _ _ | exact Wants.gf _ _); rfl; rfl; rfl; rfl; (simp only [Act.put]; (try simp only [List.setIfInBounds_toArray]); (try simp only [List.set_cons_succ]); (try simp only [List.set_cons_zero])))) | ((with_reducible apply wpList_guarded); rfl; rfl; rfl; exact (by first | exact Wants.bt _ | exact Wants.bf _ | exact Wants.gt _ _ | exact Wants.gf _ _); (intro hG; (try simp only [Bool.and_eq_true] at hG); (try simp only [Bool.not_eq_true'] at hG); (first | subst hG | (obtain ⟨h1, h2⟩ := hG; subst h1; subst h2) | (obtain ⟨⟨h1, h2⟩, h3⟩ := hG; subst h1; subst h2; subst h3)); (repeat (first | simp only [gv_true] | simp only [gv_false] | simp only [Bool.not_true] | simp only [Bool.not_false] | simp only [Bool.true_and] | simp only [Bool.false_and] | simp only [Bool.and_self])); go_simp; with_reducible rfl); (simp only [Act.put]; (try simp only [List.setIfInBounds_toArray]); (try simp only [List.set_cons_succ]); (try simp only [List.set_cons_zero]))) | ((with_reducible apply wpList_gsplit); rfl; rfl; rfl; all_goals (intro hb; subst hb; (repeat (first | simp only [gv_true] | simp only [gv_false] | simp only [Bool.not_true] | simp only [Bool.not_false] | simp only [Bool.true_and] | simp only [Bool.false_and] | simp only [Bool.and_self])))) | ((with_reducible apply wpList_gsplit2); rfl; rfl; rfl; all_goals (intro hb; (first | subst hb | ((try simp only [Bool.and_eq_true] at hb); (try simp only [Bool.not_eq_true'] at hb); obtain ⟨h1, h2⟩ := hb; subst h1; subst h2)); (repeat (first | simp only [gv_true] | simp only [gv_false] | simp only [Bool.not_true] | simp only [Bool.not_false] | simp only [Bool.true_and] | simp only [Bool.false_and] | simp only [Bool.and_self]))))) | ((with_reducible apply wpList_isPick); rfl; rfl; first | ((with_reducible apply wpList_pick_t); rfl; rfl; rfl; rfl; (simp only [Act.put]; (try simp only [List.setIfInBounds_toArray]); (try simp only [List.set_cons_succ]); (try simp only [List.set_cons_zero]))) | ((with_reducible apply wpList_pick_f); rfl; rfl; rfl; rfl; (simp only [Act.put]; (try simp only [List.setIfInBounds_toArray]); (try simp only [List.set_cons_succ]); (try simp only [List.set_cons_zero]))) | ((with_reducible apply wpList_pick_and); rfl; rfl; rfl; rfl; rfl; (simp only [Act.put]; (try simp only [List.setIfInBounds_toArray]); (try simp only [List.set_cons_succ]); (try simp only [List.set_cons_zero]))) | ((with_reducible apply wpList_pick_or); rfl; rfl; rfl; rfl; rfl; (simp only [Act.put]; (try simp only [List.setIfInBounds_toArray]); (try simp only [List.set_cons_succ]); (try simp only [List.set_cons_zero])))) | go_values | go_guarded | go_step | go_upon | go_back | dsimp only)
  all_goals (go_ret; refine ⟨ret_bool ?_, (Below.refl _ _).alloc (Nat.le_refl _) _⟩)
  all_goals
   clear HT HU HI hkl hnm
   simp only [Hid] at *
   rw [HF]
   clear HF
   simp only [isEmpty_dec] at *
   subst_vars
   generalize f.op = op at *
   generalize f.cmp = cm at *
   generalize f.num = nu at *
   by_cases hnn : f.name = ⟨#[]⟩ <;> simp [hnn] at * <;> repeat' split
   all_goals try simp_all
   all_goals try omega
   all_goals (rw [Bool.eq_iff_iff]; simp)
   all_goals try omega
end Go.Proofs.YtcigjmlileckhaaGreatDoor
/- Walks of package formula: Check. -/
namespace Go.Proofs.YtcigjmlileckhaaGreatDoor
open Go.RowKit
/-- What is wrong with a node over a domain, looking at it alone? -/
def checkLook (ds : List FactD) (f : Fm) : Int :=
 if formedS f = false then 1 else if f.op ≠ 3 then 0 else if f.num < 0 ∨ 1000000 < f.num then 10 else if factIdx ds f.name < 0 then 7 else 0
def checkS (ds : List FactD) (f : Fm) : Int := if isLarge f = true then 2 else firstErr (checkLook ds) f
set_option maxRecDepth 100000 in
set_option maxHeartbeats 2000000 in
theorem check1_any (Z : Zone) (B : Nat) (v : Value) (ds : List FactD) (f : Fm) (cs : List Value) (w : World) (hf : FmR Z w f cs) (hd : Facts Z w v ds) (hB : One w B v) :
  Calls Tryz.prog 51 #[.agg cs.toArray, .pointer (some ⟨B, 0, none⟩)] w fun e w' => e = .returned (.int .i64 (checkLook ds f)) ∧ Below w.heap.size w w' := by
 obtain ⟨A, cap, rfl⟩ := FmR.form hf
 have HF := hid (fun o => formed_any Z f _ (w.alloc o) (FmR.keep (.alloc (.refl _ _) o) _ _ hf))
 have HI := hid (fun w' (h : Below w.heap.size w w') => factIndex_any Z v ds f.name w' (hd.keep (.of_below h)))
 obtain ⟨⟨D, dcap, rfl, -, -, -, -⟩, -⟩ := hd
 have hBc := hB.cell
 have hBf := hB.free
 have hBl := hB.lt
 clear hf
 go_enter Tryz.func51, Tryz.ntmps51
 go_wp2_with fail
 refine (HF.out _).mono ?_
 rintro e w1 ⟨rfl, hb1⟩
 obtain ⟨hce, hfr⟩ := bcell hb1
 have hbw : Below w.heap.size w w1 := (below1 w _).trans (hb1.mono (by simp))
 have HE := hid (show checkLook ds f = if formedS f = false then 1 else if f.op ≠ 3 then 0 else if f.num < 0 ∨ 1000000 < f.num then 10 else if factIdx ds f.name < 0 then 7 else 0 from rfl)
 generalize formedS f = bf at *
 have hend : ∀ b, checkLook ds f = b → ∀ w', Below w.heap.size w w' → (Ending.returned (.int .i64 b) = .returned (.int .i64 (checkLook ds f)) ∧ Below w.heap.size w w') := fun b e w' h => ⟨by rw [e], h⟩
 have HG := hid hend
 clear hend
 obtain ⟨b1c, b1f⟩ : w1.cell? ⟨B, 0, none⟩ = some (.slice D ds.length dcap) ∧ B < w1.heap.size := ⟨by rw [hbw.cell hBl]; exact hBc, by have := hbw.size; omega⟩
 cases bf
 ·have HK := hid (HG.out 1 (by rw [HE.out]; simp))
  clear HG HE
  dsimp only
  go_wp2
  go_ret
  exact HK.out _ hbw
 ·dsimp only
  by_cases h3 : f.op = 3
  ·by_cases hn : f.num < 0 ∨ 1000000 < f.num
   ·have HK := hid (HG.out 10 (by rw [HE.out]; simp [h3, hn]))
    clear HG HE
    by_cases hn0 : f.num < 0
    ·go_wp2
     go_ret
     exact HK.out _ hbw
    ·have hn1 : 1000000 < f.num := by omega
     go_wp2
     go_ret
     exact HK.out _ hbw
   ·have HE2 := hid (show checkLook ds f = if factIdx ds f.name < 0 then 7 else 0 by rw [HE.out]; simp [h3, hn])
    clear HE
    have hn0 : ¬ f.num < 0 := by omega
    have hn1 : ¬ 1000000 < f.num := by omega
    clear hn
    go_wp2_with fail
    refine (HI.out _ hbw).mono ?_
    rintro e w2 ⟨rfl, hb2⟩
    dsimp only
    by_cases hi : factIdx ds f.name < 0
    ·have HK := hid (HG.out 7 (by rw [HE2.out]; simp [hi]))
     go_wp2
     go_ret
     exact HK.out _ (hbw.trans (hb2.mono hbw.size))
    ·have HK := hid (HG.out 0 (by rw [HE2.out]; simp [hi]))
     go_wp2
     go_ret
     exact HK.out _ (hbw.trans (hb2.mono hbw.size))
  ·have HK := hid (HG.out 0 (by rw [HE.out]; simp [h3]))
   have h3' : (f.op == (3 : Int)) = false := by simp [h3]
   clear HG HE
   go_wp2
   go_ret
   exact HK.out _ hbw
set_option maxRecDepth 100000 in
set_option maxHeartbeats 2000000 in
theorem check_any (Z : Zone) (v : Value) (ds : List FactD) (f : Fm) (cs : List Value) (w : World) (hf : FmR Z w f cs) (hd : Facts Z w v ds) (hsz : fsize f ≤ 4000000000000000000) (hz : ∀ b, Z b → b < w.heap.size) :
  Calls Tryz.prog 14 #[.agg cs.toArray, .agg #[v]] w fun e w' => e = .returned (.int .i64 (checkS ds f)) ∧ Below w.heap.size w w' := by
 obtain ⟨A, cap, rfl⟩ := FmR.form hf
 have hd' := hd
 obtain ⟨⟨D, dcap, rfl, -, -, -, -⟩, -⟩ := hd
 have eg : ∀ args w, (callFunc 51 args).run Tryz.prog w = .ok (.enter 51 args) w := enters_of Tryz.func51 (by kernel_rfl) rfl
 have hzs : ∀ W, w.heap.size ≤ W → ∀ b, Z b → b < W := fun W h b hb => Nat.lt_of_lt_of_le (hz b hb) h
 have HL := hid (fun w' (h : Below w.heap.size w w') => large_any Z f _ w' (FmR.keep (.of_below h) _ _ hf) hsz (hzs _ h.size))
 have HE := hid (show checkS ds f = if isLarge f = true then 2 else firstErr (checkLook ds) f from rfl)
 let W0 := (w.alloc (.cells #[.int .i64 f.op, .string f.name, .int .i64 f.cmp, .int .i64 f.num, .slice A f.kids.length cap] 24)).alloc (.cells #[.slice D ds.length dcap] 27)
 have hW0 : Below w.heap.size w W0 := ((Below.refl _ _).alloc (Nat.le_refl _) _).alloc (by simp) _
 have hone : One W0 (w.heap.size + 1) (.slice D ds.length dcap) := by
  have := One.new (w.alloc (.cells #[.int .i64 f.op, .string f.name, .int .i64 f.cmp, .int .i64 f.num, .slice A f.kids.length cap] 24)) (.slice D ds.length dcap) 27
  simp only [World.size_alloc] at this
  exact this
 have hWs : W0.heap.size = w.heap.size + 2 := by simp [W0]
 have HF := hid (fun w1 (hb1 : Below W0.heap.size W0 w1) => first_any 51 #[.pointer (some ⟨w.heap.size + 1, 0, none⟩)] eg Z (checkLook ds) w1
  (fun x cs W hx hW => check1_any Z (w.heap.size + 1) _ ds x cs W hx (hd'.keep (.of_below (hW0.trans ((hb1.trans (hW.mono hb1.size)).mono hW0.size)))) (hone.of_block ((hb1.trans (hW.mono hb1.size)).block _ (by omega)))) (fsize f) f (Nat.le_refl _) _ w1 (FmR.keep (.of_below (hW0.trans (hb1.mono hW0.size))) _ _ hf) (.refl _ _))
 clear hf hd'
 go_enter Tryz.func14, Tryz.ntmps14
 go_wp2_with fail
 refine (HL.out W0 hW0).mono ?_
 rintro e w1 ⟨rfl, hb1⟩
 dsimp only
 have hbw : Below w.heap.size w w1 := hW0.trans (hb1.mono hW0.size)
 obtain ⟨c0, c0f⟩ : w1.cell? ⟨w.heap.size + 1, 0, none⟩ = some (.slice D ds.length dcap) ∧ w.heap.size + 1 < w1.heap.size := ⟨by rw [hb1.cell (by show w.heap.size + 1 < W0.heap.size; omega)]; exact hone.cell, by have := hb1.size; omega⟩
 obtain ⟨d0, d1, d2, d3, d4⟩ := five_cells (w := w1) (b := w.heap.size) (o := 0) (v0 := .int .i64 f.op) (v1 := .string f.name) (v2 := .int .i64 f.cmp) (v3 := .int .i64 f.num) (v4 := .slice A f.kids.length cap) (fun j u hu => by
  rw [hb1.cell (by show w.heap.size < W0.heap.size; omega)]
  match j, hu with
  | 0, h => simpa [W0] using h
  | 1, h => simpa [W0] using h
  | 2, h => simpa [W0] using h
  | 3, h => simpa [W0] using h
  | 4, h => simpa [W0] using h)
 cases hl : isLarge f
 ·have HG := hid (HF.out w1 hb1)
  go_wp2_with fail
  refine HG.out.mono ?_
  rintro e w2 ⟨rfl, hb2⟩
  have HK := hid (show firstErr (checkLook ds) f = checkS ds f by rw [HE.out, hl]; simp)
  go_wp2
  go_ret
  exact ⟨ret_int HK.out, hbw.trans (hb2.mono hbw.size)⟩
 ·have HK := hid (show 2 = checkS ds f by rw [HE.out, hl]; simp)
  go_wp2
  go_ret
  exact ⟨ret_int HK.out, hbw⟩
end Go.Proofs.YtcigjmlileckhaaGreatDoor
