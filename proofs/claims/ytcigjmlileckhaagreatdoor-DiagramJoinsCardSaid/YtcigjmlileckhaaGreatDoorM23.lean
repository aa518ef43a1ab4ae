/- Walks of package formula: Holds. -/
import Derived.Test.YtcigjmlileckhaaGreatDoorM10
import Derived.Test.YtcigjmlileckhaaGreatDoorM22
import Derived.Deep.RegionHeld3
import Derived.Deep.RegionWith
/- Walks of package formula: Holds. -/
namespace Go.Proofs.YtcigjmlileckhaaGreatDoor
open Go.RowKit
/-- The six comparisons. -/
def cmpv (x cm n : Int) : Bool :=
 if cm = 1 then x == n else if cm = 2 then x != n else if cm = 3 then decide (x < n) else if cm = 4 then decide (x ≤ n) else if cm = 5 then decide (n < x) else if cm = 6 then decide (n ≤ x) else false
mutual
/-- What a formula says of a case. -/
def evF (ds : List FactD) (c : List Int) : Fm → Bool
 | .mk op nm cm nu kids => if op = 3 then cmpv (c.getD (factIdx ds nm).toNat 0) cm nu else if op = 4 then !anyF ds c kids else if op = 5 then allF ds c kids else if op = 6 then anyF ds c kids else decide (op = 1)
def allF (ds : List FactD) (c : List Int) : List Fm → Bool
 | [] => true
 | k :: ks => evF ds c k && allF ds c ks
def anyF (ds : List FactD) (c : List Int) : List Fm → Bool
 | [] => false
 | k :: ks => evF ds c k || anyF ds c ks
end
theorem evF_eq (ds : List FactD) (c : List Int) (f : Fm) : evF ds c f = if f.op = 3 then cmpv (c.getD (factIdx ds f.name).toNat 0) f.cmp f.num else if f.op = 4 then !anyF ds c f.kids else if f.op = 5 then allF ds c f.kids else if f.op = 6 then anyF ds c f.kids else decide (f.op = 1) := by
 cases f; rw [evF]; rfl
theorem anyF_any (ds : List FactD) (c : List Int) : ∀ l, anyF ds c l = l.any (evF ds c)
 | [] => by simp [anyF]
 | k :: ks => by simp [anyF, anyF_any ds c ks]
theorem allF_all (ds : List FactD) (c : List Int) : ∀ l, allF ds c l = l.all (evF ds c)
 | [] => by simp [allF]
 | k :: ks => by simp [allF, allF_all ds c ks]
theorem allF_not (ds : List FactD) (c : List Int) (l : List Fm) : allF ds c l = !(l.any fun k => !evF ds c k) := by
 rw [allF_all]; induction l with
 | nil => rfl
 | cons a l ih => simp [ih]
theorem cell_below {w0 w w' : World} {p : Addr} {v : Value} (h : Below w0.heap.size w0 w) (h' : Below w.heap.size w w') (hp : p.block < w0.heap.size) (hc : w.cell? p = some v) : w'.cell? p = some v := by
 rw [h'.cell (Nat.lt_of_lt_of_le hp h.size)]; exact hc
theorem firstErr_zero {L : Fm → Int} {f : Fm} (h : firstErr L f = 0) : L f = 0 ∧ firstErrs L f.kids = 0 := by
 rw [firstErr_eq] at h
 by_cases h0 : L f = 0
 ·rw [if_pos h0] at h; exact ⟨h0, h⟩
 ·rw [if_neg h0] at h; exact absurd h h0
theorem firstErrs_zero {L : Fm → Int} : ∀ {l : List Fm}, firstErrs L l = 0 → ∀ k (hk : k < l.length), firstErr L l[k] = 0
 | [], _, k, hk => absurd hk (Nat.not_lt_zero _)
 | a :: l, h, k, hk => by
  rw [firstErrs] at h
  by_cases h0 : firstErr L a = 0
  ·rw [if_pos h0] at h
   cases k with
   | zero => exact h0
   | succ k => exact firstErrs_zero h k (by simpa using hk)
  ·rw [if_neg h0] at h; exact absurd h h0
theorem checkLook_test {ds : List FactD} {f : Fm} (h : checkLook ds f = 0) : formedS f = true ∧ (f.op = 3 → 0 ≤ f.num ∧ f.num ≤ 1000000 ∧ 0 ≤ factIdx ds f.name) := by
 unfold checkLook at h
 cases hf : formedS f
 ·rw [if_pos hf] at h; omega
 ·refine ⟨rfl, fun h3 => ?_⟩
  rw [if_neg (by simp [hf]), if_neg (by simp [h3])] at h
  split at h
  ·omega
  ·split at h
   ·omega
   ·omega
def kidP (l : List Fm) (q : Fm → Bool) (i : Nat) : Bool := match l[i]? with | some x => q x | none => false
theorem kidP_at {l : List Fm} {q : Fm → Bool} {i : Nat} (hi : i < l.length) : kidP l q i = q l[i] := by simp [kidP, List.getElem?_eq_getElem hi]
theorem firstIdx_any (l : List Fm) (q : Fm → Bool) : decide ((0 : Int) ≤ firstIdx (kidP l q) l.length 0) = l.any q := by
 rw [Bool.eq_iff_iff, decide_eq_true_eq, List.any_eq_true]
 rcases firstIdx_spec (kidP l q) l.length 0 with ⟨k, _, h2, h3, _, h5⟩ | ⟨h1, h2⟩
 ·rw [h5]
  have hk : k < l.length := by omega
  rw [kidP_at hk] at h3
  exact ⟨fun _ => ⟨_, List.getElem_mem hk, h3⟩, fun _ => by omega⟩
 ·rw [h2]
  constructor
  ·intro h; omega
  ·rintro ⟨x, hx, hq⟩
   obtain ⟨j, hj, rfl⟩ := List.getElem_of_mem hx
   have := h1 j (Nat.zero_le _) (by omega)
   rw [kidP_at hj] at this
   simp [hq] at this
theorem below_thru {w W w' : World} (h : Below w.heap.size w W) (hb : Below W.heap.size W w') : Below w.heap.size w w' := h.trans (hb.mono h.size)
theorem drew_cell {w w1 : World} (h : Below w.drew.heap.size w.drew w1) {p : Addr} (hp : p.block < w.heap.size) : w1.cell? p = w.cell? p := h.cell hp
theorem cell_keep {w w1 : World} (h : Below w.heap.size w w1) {p : Addr} {v : Value} (hc : w.cell? p = some v) : w1.cell? p = some v := by
 rw [h.cell (lt_of_cell hc)]; exact hc
theorem fmr_kids {Z : Zone} {w : World} {f : Fm} {A : Option Addr} {cap : Nat} {a b c d : Value} (h : FmR Z w f [a, b, c, d, .slice A f.kids.length cap]) : SeqR (fun cs f => FmR Z w f cs) 5 Z w f.kids A ∧ f.kids.length * 56 ≤ 140737488355328 := by
 cases f
 unfold FmR at h
 obtain ⟨_, _, _, _, A', cap', e', _, _, hb, h⟩ := h
 injection e' with _ e'; injection e' with _ e'; injection e' with _ e'; injection e' with _ e'; injection e' with e'; injection e' with e'
 subst e'
 exact ⟨FmsR.seq h, hb⟩
theorem Tryz.idx7_1 (b0 b1 b2 b3 b4 b5 b6 : Value) (w : World) : (Instr.index 95 (.agg #[b0, b1, b2, b3, b4, b5, b6]) (.int .i64 1)).run Tryz.prog w = .ok b1 w := by kernel_rfl
theorem Tryz.idx7_2 (b0 b1 b2 b3 b4 b5 b6 : Value) (w : World) : (Instr.index 95 (.agg #[b0, b1, b2, b3, b4, b5, b6]) (.int .i64 2)).run Tryz.prog w = .ok b2 w := by kernel_rfl
theorem Tryz.idx7_3 (b0 b1 b2 b3 b4 b5 b6 : Value) (w : World) : (Instr.index 95 (.agg #[b0, b1, b2, b3, b4, b5, b6]) (.int .i64 3)).run Tryz.prog w = .ok b3 w := by kernel_rfl
theorem Tryz.idx7_4 (b0 b1 b2 b3 b4 b5 b6 : Value) (w : World) : (Instr.index 95 (.agg #[b0, b1, b2, b3, b4, b5, b6]) (.int .i64 4)).run Tryz.prog w = .ok b4 w := by kernel_rfl
theorem Tryz.idx7_5 (b0 b1 b2 b3 b4 b5 b6 : Value) (w : World) : (Instr.index 95 (.agg #[b0, b1, b2, b3, b4, b5, b6]) (.int .i64 5)).run Tryz.prog w = .ok b5 w := by kernel_rfl
theorem Tryz.idx7_6 (b0 b1 b2 b3 b4 b5 b6 : Value) (w : World) : (Instr.index 95 (.agg #[b0, b1, b2, b3, b4, b5, b6]) (.int .i64 6)).run Tryz.prog w = .ok b6 w := by kernel_rfl
theorem Tryz.idx7_cmp (x n cm : Int) (h1 : 1 ≤ cm) (h6 : cm ≤ 6) (w : World) : (Instr.index 95 (.agg #[.bool false, .bool (x == n), .bool (x != n), .bool (decide (x < n)), .bool (decide (x ≤ n)), .bool (decide (n < x)), .bool (decide (n ≤ x))]) (.int .i64 cm)).run Tryz.prog w = .ok (.bool (cmpv x cm n)) w := by
 have hcc : cm = 1 ∨ cm = 2 ∨ cm = 3 ∨ cm = 4 ∨ cm = 5 ∨ cm = 6 := by omega
 rcases hcc with rfl | rfl | rfl | rfl | rfl | rfl
 ·exact Tryz.idx7_1 ..
 ·exact Tryz.idx7_2 ..
 ·exact Tryz.idx7_3 ..
 ·exact Tryz.idx7_4 ..
 ·exact Tryz.idx7_5 ..
 ·exact Tryz.idx7_6 ..
def SelfH (Bc Bd Bs : Nat) : Value := .func (.func 58) #[] #[.pointer (some ⟨Bc, 0, none⟩), .pointer (some ⟨Bd, 0, none⟩), .pointer (some ⟨Bs, 0, none⟩)]
theorem Tryz.egHolds1 : ∀ args w, (callFunc 58 args).run Tryz.prog w = .ok (.enter 58 args) w := enters_of Tryz.func58 (by kernel_rfl) rfl
theorem Tryz.egHolds11 : ∀ args w, (callFunc 60 args).run Tryz.prog w = .ok (.enter 60 args) w := enters_of Tryz.func60 (by kernel_rfl) rfl
set_option maxRecDepth 100000 in
set_option maxHeartbeats 2000000 in
theorem holds11_any (Bc Bd Bs : Nat) (a b c d e : Value) (w : World) (r : Bool) (hBs : w.cell? ⟨Bs, 0, none⟩ = some (SelfH Bc Bd Bs))
  (h : ∀ W, Below w.heap.size w W → Calls Tryz.prog 58 #[.agg #[a, b, c, d, e], .pointer (some ⟨Bc, 0, none⟩), .pointer (some ⟨Bd, 0, none⟩), .pointer (some ⟨Bs, 0, none⟩)] W fun e w' => e = .returned (.bool r) ∧ Below W.heap.size W w') :
  Calls Tryz.prog 60 #[.agg #[a, b, c, d, e], .pointer (some ⟨Bs, 0, none⟩)] w fun e w' => e = .returned (.bool (!r)) ∧ Below w.heap.size w w' := by
 have bs3 := lt_of_cell hBs
 unfold SelfH at hBs
 have eg := Tryz.egHolds1
 have HC := hid h
 clear h
 go_enter Tryz.func60, Tryz.ntmps60
 go_wp2_with fail
 refine (HC.out _ (below1 w _)).mono ?_
 rintro e w1 ⟨rfl, hb1⟩
 go_wp2
 go_ret
 exact ⟨rfl, below_thru (below1 w _) hb1⟩
set_option maxRecDepth 100000 in
set_option maxHeartbeats 2000000 in
theorem holds1_any (Z : Zone) (Bc Bd Bs : Nat) (v vc : Value) (ds : List FactD) (c : List Int) (hlen : c.length = ds.length) : ∀ (m : Nat) (f : Fm), fsize f ≤ m → ∀ (cs : List Value) (w : World), FmR Z w f cs → Facts Z w v ds → Ints Z w vc c → One w Bd v → One w Bc vc → One w Bs (SelfH Bc Bd Bs) → firstErr (checkLook ds) f = 0 →
  Calls Tryz.prog 58 #[.agg cs.toArray, .pointer (some ⟨Bc, 0, none⟩), .pointer (some ⟨Bd, 0, none⟩), .pointer (some ⟨Bs, 0, none⟩)] w fun e w' => e = .returned (.bool (evF ds c f)) ∧ Below w.heap.size w w' := by
 intro m
 induction m with
 | zero => intro f hm; have := fsize_pos f; omega
 | succ m ih =>
 intro f hm cs w hf hd hc hBd hBc hBs hok
 have eg := Tryz.egHolds1
 have eg2 := Tryz.egHolds11
 have IH := hid ih
 clear ih
 obtain ⟨A, cap, rfl⟩ := FmR.form hf
 obtain ⟨h0, hks⟩ := firstErr_zero hok
 obtain ⟨hform, htest⟩ := checkLook_test h0
 obtain ⟨hkids, hkl⟩ := fmr_kids hf
 have HEV := hid (evF_eq ds c f)
 have hdF := hd
 have hcF := hc
 obtain ⟨⟨D, dcap, rfl, -, -, -, -⟩, -⟩ := hd
 obtain ⟨⟨C, ccap, rfl, -, -, -, -⟩, -⟩ := hc
 have bc1 := hBc.cell
 have bc3 := hBc.lt
 have bd1 := hBd.cell
 have bd3 := hBd.lt
 have bs1 := hBs.cell
 have bs3 := hBs.lt
 unfold SelfH at bs1
 have hend : ∀ b, evF ds c f = b → ∀ w', Below w.heap.size w w' → (Ending.returned (.bool b) = .returned (.bool (evF ds c f)) ∧ Below w.heap.size w w') := fun b e w' h => ⟨by rw [e], h⟩
 have HG := hid hend
 clear hend
 by_cases h3 : f.op = 3
 ·obtain ⟨hn0, hn1, hi⟩ := htest h3
  have hcm : 1 ≤ f.cmp ∧ f.cmp ≤ 6 := by
   rw [formedS_test h3] at hform
   simp only [Bool.and_eq_true, decide_eq_true_eq] at hform
   omega
  obtain ⟨k, hk, hkl2⟩ : ∃ k : Nat, factIdx ds f.name = k ∧ k < c.length := by
   unfold factIdx at hi ⊢
   rcases firstIdx_spec (nameIs ds f.name) ds.length 0 with ⟨k, _, h2, h3, _, h5⟩ | ⟨h1, h2⟩
   ·exact ⟨k, h5, by omega⟩
   ·rw [h2] at hi; omega
  have hcl : c.length < 9223372036854775807 := by obtain ⟨⟨_, _, _, _, _, h, _⟩, _⟩ := hcF; omega
  obtain ⟨b, off, rfl, hz, hbl, hcell⟩ := Ints.at_ hcF hkl2
  have HI := hid (fun W (h : Below w.heap.size w W) => factIndex_any Z _ ds f.name W (hdF.keep (.of_below h)))
  rw [hk] at HI
  have hx : c.getD k 0 = c[k] := by simp [List.getD, hkl2]
  have HK := hid (HG.out (cmpv c[k] f.cmp f.num) (by rw [HEV.out, if_pos h3, hk, Int.toNat_natCast, hx]))
  generalize c[k] = x at *
  have hk0 : (k : Int) < c.length := by omega
  have hkd : k < ds.length := by omega
  obtain ⟨hcm1, hcm6⟩ := hcm
  clear HG HEV hkids hks hform htest h0 hx hk hi hn0 hn1
  go_enter Tryz.func58, Tryz.ntmps58
  go_wp2_with fail
  have hB := Blk.new w 24 #[.int .i64 3, .string f.name, .int .i64 f.cmp, .int .i64 f.num, .slice A f.kids.length cap]
  have hb0 := below1 w (.cells #[.int .i64 3, .string f.name, .int .i64 f.cmp, .int .i64 f.num, .slice A f.kids.length cap] 24)
  generalize w.alloc (.cells #[.int .i64 3, .string f.name, .int .i64 f.cmp, .int .i64 f.num, .slice A f.kids.length cap] 24) = W0 at *
  have HB0 := hid (And.intro hB hb0)
  have HCELL := hid (fun (W : World) (hW : Below W0.heap.size W0 W) => (show W.cell? ⟨Bc, 0, none⟩ = some (.slice (some ⟨b, off, none⟩) c.length ccap) ∧ W.cell? ⟨b, off + k, none⟩ = some (.int .i64 x) ∧ W.cell? ⟨w.heap.size, 1, none⟩ = some (.string f.name) ∧ W.cell? ⟨w.heap.size, 2, none⟩ = some (.int .i64 f.cmp) ∧ W.cell? ⟨w.heap.size, 3, none⟩ = some (.int .i64 f.num) ∧ W.cell? ⟨Bd, 0, none⟩ = some (.slice D ds.length dcap) from by
   have hbw := hb0.trans (hW.mono hb0.size)
   have hx := hB.below hW hB.lt
   exact ⟨cell_below (.refl _ _) hbw bc3 bc1, cell_below (.refl _ _) hbw hbl hcell, hx.cell 1, hx.cell 2, hx.cell 3, cell_below (.refl _ _) hbw bd3 bd1⟩))
  have hbx : w.heap.size < W0.heap.size := hB.lt
  clear hB hb0
  refine wp_region_S 7 (fun W => Below W0.heap.size W0 W) (by kernel_rfl) ?_
  have hS : (fun W => Below W0.heap.size W0 W) W0.drew := (Below.refl _ _).drew
  (refine wpAnyS_take (i := 0) (v := ?_) rfl (by kernel_rfl) (by kernel_rfl) (fun _ _ _ h => h) (Or.inl ⟨by rfl, ?_⟩) hS ?_; rotate_left; (intro w hSw; have hkw := hSw; obtain ⟨h0, h1, h2, h3, h4, h5⟩ := HCELL.out _ hkw; go_simp; (try with_reducible rfl)); ((try simp only [Act.put]); (try simp only [nrA]); (try simp only [nrB]); (try simp only [nrC])))
  (refine wpAnyS_take (i := 1) (v := ?_) rfl (by kernel_rfl) (by kernel_rfl) (fun _ _ _ h => h) (Or.inl ⟨by rfl, ?_⟩) hS ?_; rotate_left; (intro w hSw; have hkw := hSw; obtain ⟨h0, h1, h2, h3, h4, h5⟩ := HCELL.out _ hkw; go_simp; (try with_reducible rfl)); ((try simp only [Act.put]); (try simp only [nrA]); (try simp only [nrB]); (try simp only [nrC])))
  (refine wpAnyS_take0 (i := 2) (v := ?_) rfl (by kernel_rfl) (by kernel_rfl) (fun _ _ _ h => h) (Or.inl ⟨by rfl, ?_⟩) (Or.inr hS) ?_; rotate_left; (intro w hSw; clear hSw; go_simp; (try with_reducible rfl)); ((try simp only [Act.put]); (try simp only [nrA]); (try simp only [nrB]); (try simp only [nrC])))
  (refine wpAnyS_take (i := 3) (v := ?_) rfl (by kernel_rfl) (by kernel_rfl) (fun _ _ _ h => h) (Or.inl ⟨by rfl, ?_⟩) hS ?_; rotate_left; (intro w hSw; have hkw := hSw; obtain ⟨h0, h1, h2, h3, h4, h5⟩ := HCELL.out _ hkw; go_simp; (try with_reducible rfl)); ((try simp only [Act.put]); (try simp only [nrA]); (try simp only [nrB]); (try simp only [nrC])))
  refine wpAnyS_one (i := 4) (by kernel_rfl) rfl rfl (fun K hK => ?_)
  go_wp2_with fail
  refine (HI.out _ HB0.out.2.drew).mono ?_
  rintro e w1 ⟨rfl, hb1⟩
  have hS1 : Below W0.heap.size W0 w1 := ((Below.refl W0.heap.size W0).drew).trans hb1
  refine hK _ _ (Or.inr hS1) ?_
  clear hK K hb1 hS
  ((try simp only [Act.put]); (try simp only [nrA]); (try simp only [nrB]); (try simp only [nrC]))
  have hS : (fun W => Below W0.heap.size W0 W) w1 := hS1
  (refine wpAnyS_take0 (i := 5) (v := ?_) rfl (by kernel_rfl) (by kernel_rfl) (fun _ _ _ h => h) (Or.inl ⟨by rfl, ?_⟩) (Or.inr hS) ?_; rotate_left; (intro w hSw; clear hSw; go_simp; (try with_reducible rfl)); ((try simp only [Act.put]); (try simp only [nrA]); (try simp only [nrB]); (try simp only [nrC])))
  (refine wpAnyS_take (i := 6) (v := ?_) rfl (by kernel_rfl) (by kernel_rfl) (fun _ _ _ h => h) (Or.inl ⟨by rfl, ?_⟩) hS ?_; rotate_left; (intro w hSw; have hkw := hSw; obtain ⟨h0, h1, h2, h3, h4, h5⟩ := HCELL.out _ hkw; go_simp; (try with_reducible rfl)); ((try simp only [Act.put]); (try simp only [nrA]); (try simp only [nrB]); (try simp only [nrC])))
  refine wpAnyS_one (i := 7) (by kernel_rfl) rfl rfl (fun K hK => ?_)
  go_wp2_with fail
  refine hK _ _ (Or.inl rfl) ?_
  clear hK K
  ((try simp only [Act.put]); (try simp only [nrA]); (try simp only [nrB]); (try simp only [nrC]))
  refine wpAnyS_done (by kernel_rfl) ?_ _
  obtain ⟨-, -, -, q3, q4, -⟩ := HCELL.out _ hS1
  have hbw : Below w.heap.size w w1 := HB0.out.2.trans (hS1.mono HB0.out.2.size)
  have hbx1 : w.heap.size < w1.heap.size := Nat.lt_of_lt_of_le hbx hS1.size
  clear HI hcF hBc hBd hBs hdF eg eg2 IH hf HCELL HB0 hS hS1 bc1 bd1 bs1 hcell
  have hix := Tryz.idx7_cmp x f.num f.cmp hcm1 hcm6
  generalize f.cmp = cm at *
  generalize f.num = nu at *
  go_wp2
  go_ret
  exact HK.out _ hbw
 ·have h3' : (f.op == (3 : Int)) = false := by simp [h3]
  by_cases h4 : f.op = 4
  ·have hl1 : f.kids.length = 1 := by
    rw [formedS_tail h3] at hform
    split at hform
    ·simp at hform
    ·simpa [h4] using hform
   obtain ⟨g, hg⟩ : ∃ g, f.kids = [g] := by
    cases hk : f.kids with
    | nil => rw [hk] at hl1; simp at hl1
    | cons x r => rw [hk] at hl1; simp at hl1; exact ⟨x, by rw [hl1]⟩
   have hle : fsize g < fsize f := by have := fsize_eq f; rw [hg] at this; simp [fsizes] at this; omega
   rw [hg] at hkids hks
   have hgk : firstErr (checkLook ds) g = 0 := firstErrs_zero hks 0 (by simp)
   obtain ⟨b, off, cs, rfl, hz, hcs, hfk, -⟩ := hkids
   have hfk' := hfk
   obtain ⟨A', cap', rfl⟩ := FmR.form hfk
   obtain ⟨c0, c1, c2, c3, c4⟩ := five_cells (fun j u hu => hcs j u hu)
   have HC := hid (fun W (h : Below w.heap.size w W) => IH.out g (by omega) _ W (FmR.keep (.of_below h) _ _ hfk') (hdF.keep (.of_below h)) (hcF.keep (.of_below h)) (hBd.of_block (h.block _ bd3)) (hBc.of_block (h.block _ bc3)) (hBs.of_block (h.block _ bs3)) hgk)
   have HK := hid (HG.out (!evF ds c g) (by
    rw [HEV.out, if_neg h3, if_pos h4, hg]; simp [anyF]))
   have hl0 : (0 : Int) < (f.kids.length : Nat) := by omega
   have hl9 : 0 < f.kids.length := by omega
   have hbl := lt_of_cell c0
   clear HG HEV h3 hcs hfk hfk' hle hg hl1 hks hform htest h0 hgk
   go_enter Tryz.func58, Tryz.ntmps58
   go_wp2_with fail
   go_region_with (go_at_call 58; refine (HC.out _ (below1 w _).drew).mono ?_; rintro e w1 ⟨rfl, hb1⟩)
   all_goals go_wp2
   all_goals (go_ret; exact HK.out _ (below_thru (below1 w _).drew hb1))
  ·have h4' : (f.op == (4 : Int)) = false := by simp [h4]
   by_cases h5 : f.op = 5
   ·have HP := hid (containsFuncFormula_any 60 #[.pointer (some ⟨Bs, 0, none⟩)] eg2 (fun cs x => FmR Z w x cs) Z f.kids (kidP f.kids fun x => !evF ds c x) A cap (w.alloc (.cells #[.int .i64 f.op, .string f.name, .int .i64 f.cmp, .int .i64 f.num, .slice A f.kids.length cap] 24))
     (fun cs x h => by obtain ⟨A, cap, rfl⟩ := FmR.form h; exact ⟨_, _, _, _, _, rfl⟩) (hkids.imp (fun _ _ h => h) (.alloc (.refl _ _) _) (fun _ h => h)) (by omega) (fun i hi cs hcs W hW => by
      have hwW : Below w.heap.size w W := below_thru (below1 w _) hW
      obtain ⟨A', cap', rfl⟩ := FmR.form hcs
      rw [kidP_at hi]
      refine holds11_any Bc Bd Bs _ _ _ _ _ W _ (by rw [hwW.cell bs3]; exact hBs.cell) (fun W' hW' => ?_)
      have h : Below w.heap.size w W' := below_thru hwW hW'
      exact IH.out f.kids[i] (by have := fsize_kid hi; omega) _ W' (FmR.keep (.of_below h) _ _ hcs) (hdF.keep (.of_below h)) (hcF.keep (.of_below h)) (hBd.of_block (h.block _ bd3)) (hBc.of_block (h.block _ bc3)) (hBs.of_block (h.block _ bs3)) (firstErrs_zero hks i hi)))
    have HK := hid (HG.out (!(f.kids.any fun x => !evF ds c x)) (by rw [HEV.out, if_neg h3, if_neg h4, if_pos h5, allF_not]))
    have HQ := hid (firstIdx_any f.kids (fun x => !evF ds c x))
    clear HG HEV h3 hkids hks hform htest h0
    go_enter Tryz.func58, Tryz.ntmps58
    go_wp2_with fail
    rw [← h5]
    refine HP.out.mono ?_
    rintro e w1 ⟨rfl, hb1⟩
    go_wp2
    go_ret
    rw [HQ.out]
    exact HK.out _ (below_thru (below1 w _) hb1)
   ·have h5' : (f.op == (5 : Int)) = false := by simp [h5]
    by_cases h6 : f.op = 6
    ·have HP := hid (containsFuncFormula_any 58 #[.pointer (some ⟨Bc, 0, none⟩), .pointer (some ⟨Bd, 0, none⟩), .pointer (some ⟨Bs, 0, none⟩)] eg (fun cs x => FmR Z w x cs) Z f.kids (kidP f.kids fun x => evF ds c x) A cap (w.alloc (.cells #[.int .i64 f.op, .string f.name, .int .i64 f.cmp, .int .i64 f.num, .slice A f.kids.length cap] 24))
      (fun cs x h => by obtain ⟨A, cap, rfl⟩ := FmR.form h; exact ⟨_, _, _, _, _, rfl⟩) (hkids.imp (fun _ _ h => h) (.alloc (.refl _ _) _) (fun _ h => h)) (by omega) (fun i hi cs hcs W hW => by
       have h : Below w.heap.size w W := below_thru (below1 w _) hW
       rw [kidP_at hi]
       exact IH.out f.kids[i] (by have := fsize_kid hi; omega) _ W (FmR.keep (.of_below h) _ _ hcs) (hdF.keep (.of_below h)) (hcF.keep (.of_below h)) (hBd.of_block (h.block _ bd3)) (hBc.of_block (h.block _ bc3)) (hBs.of_block (h.block _ bs3)) (firstErrs_zero hks i hi)))
     have HK := hid (HG.out (f.kids.any fun x => evF ds c x) (by rw [HEV.out, if_neg h3, if_neg h4, if_neg h5, if_pos h6, anyF_any]))
     have HQ := hid (firstIdx_any f.kids (fun x => evF ds c x))
     clear HG HEV h3 hkids hks hform htest h0
     go_enter Tryz.func58, Tryz.ntmps58
     go_wp2_with fail
     rw [← h6]
     refine HP.out.mono ?_
     rintro e w1 ⟨rfl, hb1⟩
     go_wp2
     go_ret
     rw [HQ.out]
     exact HK.out _ (below_thru (below1 w _) hb1)
    ·have h6' : (f.op == (6 : Int)) = false := by simp [h6]
     have HK := hid (HG.out (f.op == 1) (by rw [HEV.out]; simp [h3, h4, h5, h6]; rfl))
     clear HG HEV h3 h4 h5 h6
     go_enter Tryz.func58, Tryz.ntmps58
     go_wp2
     go_ret
     exact HK.out _ ((Below.refl _ _).alloc (Nat.le_refl _) _)
end Go.Proofs.YtcigjmlileckhaaGreatDoor
