/- Walks of the reference's comparisons: Ints, Less, Equal, Same, Few. Walks of the reference's Equal, Same; size, Small. Walks of the reference's Same, size, Small. -/
import Derived.Test.YtcigjmlileckhaaGreatDoorM9
import Derived.Test.YtcigjmlileckhaaGreatDoorM1
import Derived.Deep.RegionHeld3
/- Walks of the reference's comparisons: Ints, Less, Equal, Same, Few. -/
namespace Go.Proofs.YtcigjmlileckhaaGreatDoor
open Go.RowKit
set_option maxRecDepth 100000 in
set_option maxHeartbeats 4000000 in
theorem refInts_any (Z Z' : Zone) (v v' : Value) (xs ys : List Int) (w : World) (hx : Ints Z w v xs) (hy : Ints Z' w v' ys) :
  Calls Tryz.prog 28 #[v, v'] w fun e w' => e = .returned (.bool (decide (xs = ys))) ∧ Below w.heap.size w w' := by
 have HX := hid hx
 have HY := hid hy
 obtain ⟨A, cap, rfl, hlx⟩ := hx.form
 obtain ⟨A', cap', rfl, hly⟩ := hy.form
 clear hx hy
 go_enter Tryz.func28, Tryz.ntmps28
 by_cases hl : xs.length = ys.length
 ·have e1 : ((xs.length : Int) != (ys.length : Int)) = false := by simp [hl]
  have HL := hid hl
  clear hl
  go_wp2
  go_loopw [5] (fun i wr => ∃ k : Nat, k ≤ xs.length ∧ i = .int .i64 k ∧ Below w.heap.size w wr ∧ Hid (xs.take k = ys.take k)) (fun i _ => xs.length - (intOf i).toNat)
  case atStart => exact ⟨0, Nat.zero_le _, rfl, Below.refl _ _, by simp [Hid]⟩
  case round =>
   obtain ⟨k, hk, rfl, hbel, htk⟩ := hrel
   by_cases hlt : k < xs.length
   ·have hlt' : k < ys.length := by rw [← HL.out]; exact hlt
    obtain ⟨b, off, rfl, -, hb, hc⟩ := HX.out.at_ hlt
    obtain ⟨b', off', rfl, -, hb', hc'⟩ := HY.out.at_ hlt'
    replace hc := (hbel.cell (p := ⟨b, off + k, none⟩) hb).trans hc
    replace hc' := (hbel.cell (p := ⟨b', off' + k, none⟩) hb').trans hc'
    have hbr := lt_of_cell hc
    have hbr' := lt_of_cell hc'
    have HNX := hid (fun e => take_eq_step hlt hlt' htk.out e)
    have HNE := hid (show xs[k] ≠ ys[k] → xs ≠ ys from fun h e => h (by subst e; rfl))
    have hk1 : ((k : Nat) : Int) < (xs.length : Int) := by omega
    have hk2 : ((k : Nat) : Int) < (ys.length : Int) := by omega
    have hk0 : (0 : Int) ≤ ((k : Nat) : Int) := by omega
    have HB := hid hbel
    clear hbel hb hb' htk
    generalize xs[k] = x at *
    generalize ys[k] = y at *
    by_cases hxy : x = y
    ·have e2 : (x != y) = false := by simp [hxy]
     have HNX2 := hid (HNX.out hxy)
     clear hxy HNX HNE
     go_wp2
     go_quiet (fail)
     go_wp2
     go_roundw
     case rel => exact ⟨k + 1, by omega, by go_num, below_drewN' HB.out _, HNX2⟩
     case measure => simp [intOf]; omega
    ·have e2 : (x != y) = true := by simp [hxy]
     have HNE2 := hid (HNE.out hxy)
     clear hxy HNX HNE
     go_wp2
     go_quiet (fail)
     go_wp2
     go_ret
     rw [decide_eq_false HNE2.out]
     exact ⟨rfl, below_drewN' HB.out _⟩
   ·obtain rfl : k = xs.length := by omega
    have HEQ := hid (show xs = ys from by have h := htk.out; rw [List.take_length] at h; rw [h, HL.out, List.take_length])
    clear htk
    go_wp2
    go_ret
    rw [decide_eq_true HEQ.out]
    exact ⟨rfl, hbel⟩
 ·have e1 : ((xs.length : Int) != (ys.length : Int)) = true := by simp; omega
  have HN := hid (show xs ≠ ys from fun e => hl (by rw [e]))
  clear hl
  go_wp2
  go_ret
  rw [decide_eq_false HN.out]
  exact ⟨rfl, Below.refl _ _⟩
/-- Less, of two cases. -/
def lessS : List Int → List Int → Bool
 | a :: x, b :: y => if a = b then lessS x y else decide (a < b)
 | _, _ => false
theorem lessS_lex : ∀ {a b : List Int}, lessS a b = true → lexLt a b
 | [], _, h => by simp [lessS] at h
 | _ :: _, [], h => by simp [lessS] at h
 | a :: x, b :: y, h => by
  unfold lessS at h
  by_cases e : a = b
  ·rw [if_pos e] at h
   obtain ⟨j, h1, h2, h3, h4⟩ := lessS_lex h
   refine ⟨j + 1, by simpa using h1, by simpa using h2, fun i hi => ?_, by simpa using h4⟩
   cases i with
   | zero => simpa using e
   | succ i => simpa using h3 i (by omega)
  ·rw [if_neg e] at h
   exact ⟨0, by simp, by simp, fun i hi => absurd hi (by omega), by simpa using h⟩
theorem lessS_nil_left (b : List Int) : lessS [] b = false := by unfold lessS; rfl
theorem lessS_nil_right (a : List Int) : lessS a [] = false := by cases a <;> rfl
set_option maxRecDepth 100000 in
set_option maxHeartbeats 4000000 in
theorem refLess_any (Z Z' : Zone) (v v' : Value) (xs ys : List Int) (w : World) (hx : Ints Z w v xs) (hy : Ints Z' w v' ys) :
  Calls Tryz.prog 21 #[v, v'] w fun e w' => e = .returned (.bool (lessS xs ys)) ∧ Below w.heap.size w w' := by
 have HX := hid hx
 have HY := hid hy
 obtain ⟨A, cap, rfl, hlx⟩ := hx.form
 obtain ⟨A', cap', rfl, hly⟩ := hy.form
 clear hx hy
 go_enter Tryz.func21, Tryz.ntmps21
 go_wp2
 go_loopw [5] (fun i wr => ∃ k : Nat, k ≤ xs.length ∧ i = .int .i64 k ∧ Below w.heap.size w wr ∧ Hid (lessS xs ys = lessS (xs.drop k) (ys.drop k))) (fun i _ => xs.length - (intOf i).toNat)
 case atStart => exact ⟨0, Nat.zero_le _, rfl, Below.refl _ _, rfl⟩
 case round =>
  obtain ⟨k, hk, rfl, hbel, hres⟩ := hrel
  by_cases hlt : k < xs.length
  ·by_cases hlt' : k < ys.length
   ·obtain ⟨b, off, rfl, -, hb, hc⟩ := HX.out.at_ hlt
    obtain ⟨b', off', rfl, -, hb', hc'⟩ := HY.out.at_ hlt'
    replace hc := (hbel.cell (p := ⟨b, off + k, none⟩) hb).trans hc
    replace hc' := (hbel.cell (p := ⟨b', off' + k, none⟩) hb').trans hc'
    have hbr := lt_of_cell hc
    have hbr' := lt_of_cell hc'
    have hk1 : ((k : Nat) : Int) < (xs.length : Int) := by omega
    have hk2 : ((k : Nat) : Int) < (ys.length : Int) := by omega
    have hk0 : (0 : Int) ≤ ((k : Nat) : Int) := by omega
    have HB := hid hbel
    have hr := hres.out
    rw [List.drop_eq_getElem_cons hlt, List.drop_eq_getElem_cons hlt'] at hr
    generalize xs[k] = x at *
    generalize ys[k] = y at *
    have HR := hid (show lessS xs ys = if x = y then lessS (xs.drop (k + 1)) (ys.drop (k + 1)) else decide (x < y) from hr)
    clear hbel hb hb' hres hr
    by_cases hxy : x = y
    ·have e2 : (x != y) = false := by simp [hxy]
     have HR2 := hid (HR.out.trans (if_pos hxy))
     clear hxy HR
     go_wp2
     go_quiet (fail)
     go_wp2
     go_roundw
     case rel => exact ⟨k + 1, by omega, by go_num, below_drewN' HB.out _, HR2⟩
     case measure => simp [intOf]; omega
    ·have e2 : (x != y) = true := by simp [hxy]
     have HR2 := hid (HR.out.trans (if_neg hxy))
     clear hxy HR
     go_wp2
     go_quiet (fail)
     go_wp2
     go_quiet (fail)
     go_wp2
     go_ret
     rw [HR2.out]
     exact ⟨rfl, below_drewN' (below_drewN' HB.out _) _⟩
   ·have hd : ys.drop k = [] := List.drop_eq_nil_of_le (by omega)
    have HR2 := hid (show lessS xs ys = false from by rw [hres.out, hd, lessS_nil_right])
    have e3 : decide (((k : Nat) : Int) < (ys.length : Int)) = false := by simp; omega
    have e3' : decide (k < ys.length) = false := by simp; omega
    clear hd hres
    go_wp2
    go_ret
    rw [HR2.out]
    exact ⟨rfl, hbel⟩
  ·obtain rfl : k = xs.length := by omega
   have HR2 := hid (show lessS xs ys = false from by rw [hres.out, List.drop_length, lessS_nil_left])
   clear hres
   go_wp2
   go_ret
   rw [HR2.out]
   exact ⟨rfl, hbel⟩
/-- Few: sizes of a diagram. -/
def fewS (g : List NodeD) (n : Int) : Bool := decide ((g.length : Int) ≤ n) && g.all fun x => decide ((x.kids.length : Int) ≤ n) && decide ((x.cuts.length : Int) ≤ n)
set_option maxRecDepth 100000 in
set_option maxHeartbeats 4000000 in
theorem refFew_any (Z : Zone) (v : Value) (g : List NodeD) (n : Int) (w : World) (hg : Nodes Z w v g) :
  Calls Tryz.prog 22 #[.agg #[v], .int .i64 n] w fun e w' => e = .returned (.bool (fewS g n)) ∧ Below w.heap.size w w' := by
 obtain ⟨A, cap, rfl, hcap, hlen, hat⟩ := hg.open_
 have HAT := hid hat
 have HU := hid (show fewS g n = (decide ((g.length : Int) ≤ n) && g.all fun x => decide ((x.kids.length : Int) ≤ n) && decide ((x.cuts.length : Int) ≤ n)) from rfl)
 have hb0 := below1 w (.cells #[.slice A g.length cap] 34)
 have hg0 := (Blk.new w 34 #[.slice A g.length cap]).cell 0
 have HB0 := hid (And.intro hb0 hg0)
 clear hat hg hb0 hg0
 go_enter Tryz.func22, Tryz.ntmps22
 go_wp2
 go_loopw [5] (fun i wr => ∃ k : Nat, k ≤ g.length ∧ i = .int .i64 k ∧ wr.cell? ⟨w.heap.size, 0, none⟩ = some (.slice A g.length cap) ∧ Below w.heap.size w wr ∧ Hid (∀ j, j < k → (((g.getD j noNode).kids.length : Int) ≤ n ∧ ((g.getD j noNode).cuts.length : Int) ≤ n))) (fun i _ => g.length - (intOf i).toNat)
 case atStart => exact ⟨0, Nat.zero_le _, rfl, HB0.out.2, HB0.out.1, fun j hj => absurd hj (Nat.not_lt_zero _)⟩
 case round =>
  obtain ⟨k, hk, rfl, hg0, hbel, hall⟩ := hrel
  have hg0l := lt_of_cell hg0
  have HB := hid hbel
  by_cases hln : (g.length : Int) ≤ n
  ·have e0 : decide ((g.length : Int) ≤ n) = true := by simpa using hln
   rw [e0, Bool.true_and] at HU
   by_cases hlt : k < g.length
   ·obtain ⟨b, off, vc, vk, rfl, -, hb, -, -, c2, c3, -, hc, hkk⟩ := HAT.out k hlt
    obtain ⟨VC, ccap, rfl, hlc⟩ := hc.form
    obtain ⟨VK, kcap, rfl, hlk⟩ := hkk.form
    replace c2 := (hbel.cell (p := ⟨b, off + k * 4 + 2, none⟩) hb).trans c2
    replace c3 := (hbel.cell (p := ⟨b, off + k * 4 + 3, none⟩) hb).trans c3
    have hbr := lt_of_cell c2
    have hk1 : ((k : Nat) : Int) < (g.length : Int) := by omega
    have hk0 : (0 : Int) ≤ ((k : Nat) : Int) := by omega
    have hgd : g.getD k noNode = g[k] := by simp [List.getD_eq_getElem?_getD, hlt]
    have HBAD := hid (show ¬ ((g[k].kids.length : Int) ≤ n ∧ (g[k].cuts.length : Int) ≤ n) → (g.all fun x => decide ((x.kids.length : Int) ≤ n) && decide ((x.cuts.length : Int) ≤ n)) = false from fun h => by
     rw [List.all_eq_false]
     exact ⟨g[k], List.getElem_mem hlt, by simpa using h⟩)
    have HNX := hid (show ((g[k].kids.length : Int) ≤ n ∧ (g[k].cuts.length : Int) ≤ n) → ∀ j, j < k + 1 → (((g.getD j noNode).kids.length : Int) ≤ n ∧ ((g.getD j noNode).cuts.length : Int) ≤ n) from fun h j hj => by
     by_cases e : j = k
     ·subst e; rw [hgd]; exact h
     ·exact hall.out j (by omega))
    clear hbel hb hc hkk hgd hall hln
    generalize g[k] = nd at *
    by_cases h1 : n < (nd.kids.length : Int)
    ·have e1 : decide (n < (nd.kids.length : Int)) = true := by simpa using h1
     have HR := hid (HU.out.trans (HBAD.out (fun h => by omega)))
     clear h1 HBAD HNX
     go_wp2
     go_ret
     rw [HR.out]
     exact ⟨rfl, HB.out⟩
    ·have e1 : decide (n < (nd.kids.length : Int)) = false := by simpa using h1
     by_cases h2 : n < (nd.cuts.length : Int)
     ·have e2 : decide (n < (nd.cuts.length : Int)) = true := by simpa using h2
      have HR := hid (HU.out.trans (HBAD.out (fun h => by omega)))
      clear h1 h2 HBAD HNX
      go_wp2
      go_ret
      rw [HR.out]
      exact ⟨rfl, HB.out⟩
     ·have e2 : decide (n < (nd.cuts.length : Int)) = false := by simpa using h2
      have HR := hid (HNX.out (by omega))
      clear h1 h2 HBAD HNX
      go_wp2
      go_roundw
      case rel => exact ⟨k + 1, by omega, by go_num, hg0, HB.out, HR⟩
      case measure => simp [intOf]; omega
   ·obtain rfl : k = g.length := by omega
    have HR := hid (show fewS g n = true from by
     rw [HU.out, List.all_eq_true]
     intro x hx
     obtain ⟨j, hj, rfl⟩ := List.getElem_of_mem hx
     have := hall.out j hj
     have e : g.getD j noNode = g[j] := by simp [List.getD_eq_getElem?_getD, hj]
     rw [e] at this
     simpa using this)
    clear hall hbel hln
    go_wp2
    go_ret
    rw [HR.out]
    exact ⟨rfl, HB.out⟩
  ·have e0 : decide ((g.length : Int) ≤ n) = false := by simpa using hln
   rw [e0, Bool.false_and] at HU
   clear hall hbel hln
   by_cases hlt : k < g.length
   ·have hk1 : ((k : Nat) : Int) < (g.length : Int) := by omega
    go_wp2
    go_ret
    rw [HU.out]
    exact ⟨rfl, HB.out⟩
   ·obtain rfl : k = g.length := by omega
    go_wp2
    go_ret
    rw [HU.out]
    exact ⟨rfl, HB.out⟩
end Go.Proofs.YtcigjmlileckhaaGreatDoor
/- Walks of the reference's Equal, Same; size, Small. -/
namespace Go.Proofs.YtcigjmlileckhaaGreatDoor
open Go.RowKit
set_option maxRecDepth 100000 in
set_option maxHeartbeats 8000000 in
theorem refEqual_any (Z Z' : Zone) (a b : NodeD) (ca cb : List Value) (w : World) (ha : NodeR Z w ca a) (hb : NodeR Z' w cb b) :
  Calls Tryz.prog 76 #[.agg ca.toArray, .agg cb.toArray] w fun e w' => e = .returned (.bool (decide (a = b))) ∧ Below w.heap.size w w' := by
 obtain ⟨ac, ak, rfl, -, hac, hak⟩ := ha
 obtain ⟨bc, bk, rfl, -, hbc, hbk⟩ := hb
 have HAC := hid hac
 have HAK := hid hak
 have HBC := hid hbc
 have HBK := hid hbk
 obtain ⟨AC, acap, rfl, hal⟩ := hac.form
 obtain ⟨AK, kcap, rfl, hkl⟩ := hak.form
 obtain ⟨BC, bcap, rfl, hbl⟩ := hbc.form
 obtain ⟨BK, qcap, rfl, hql⟩ := hbk.form
 have HE := hid (show decide (a = b) = (decide (a.fact = b.fact) && decide (a.leaf = b.leaf) && decide (a.cuts = b.cuts) && decide (a.kids = b.kids)) from by
  rw [Bool.eq_iff_iff]
  simp only [decide_eq_true_eq, Bool.and_eq_true]
  constructor
  ·rintro rfl; simp
  ·rintro ⟨⟨⟨h1, h2⟩, h3⟩, h4⟩
   exact NodeD.ext' h2 h1 h3 h4)
 obtain ⟨al, af, cs, ks⟩ := a
 obtain ⟨bl, bf, ds, qs⟩ := b
 simp only at *
 have hba := (Blk.new w 55 #[.bool al, .int .i64 af, .slice AC cs.length acap, .slice AK ks.length kcap]).alloc (.cells #[.bool bl, .int .i64 bf, .slice BC ds.length bcap, .slice BK qs.length qcap] 55)
 have hbb := Blk.new' (w.alloc (.cells #[.bool al, .int .i64 af, .slice AC cs.length acap, .slice AK ks.length kcap] 55)) 55 #[.bool bl, .int .i64 bf, .slice BC ds.length bcap, .slice BK qs.length qcap] (n := w.heap.size + 1) (by simp)
 have hw0 := (below1 w (.cells #[.bool al, .int .i64 af, .slice AC cs.length acap, .slice AK ks.length kcap] 55)).alloc (by simp) (.cells #[.bool bl, .int .i64 bf, .slice BC ds.length bcap, .slice BK qs.length qcap] 55)
 have HW0 := hid (And.intro hba (And.intro hbb hw0))
 clear hac hak hbc hbk hba hbb hw0
 go_enter Tryz.func76, Tryz.ntmps76
 by_cases h1 : af = bf
 ·have e1 : (af != bf) = false := by simp [h1]
  rw [decide_eq_true h1] at HE
  by_cases h2 : al = bl
  ·subst h2
   have e2 : (al != al) = false := by simp
   rw [decide_eq_true (rfl : al = al)] at HE
   by_cases h3 : cs.length = ds.length
   ·have e3 : ((cs.length : Int) != (ds.length : Int)) = false := by simp [h3]
    have HL3 := hid h3
    by_cases h4 : ks.length = qs.length
    ·have e4 : ((ks.length : Int) != (qs.length : Int)) = false := by simp [h4]
     have HL4 := hid h4
     clear h1 h3 h4
     go_wp2
     have hw0 := HW0.out
     generalize ((w.alloc (.cells #[.bool al, .int .i64 af, .slice AC cs.length acap, .slice AK ks.length kcap] 55)).alloc (.cells #[.bool al, .int .i64 bf, .slice BC ds.length bcap, .slice BK qs.length qcap] 55)) = W0 at *
     clear hw0
     go_loopw [5] (fun i wr => ∃ k : Nat, k ≤ cs.length ∧ i = .int .i64 k ∧ Below W0.heap.size W0 wr ∧ Hid (cs.take k = ds.take k)) (fun i _ => cs.length - (intOf i).toNat)
     case atStart => exact ⟨0, Nat.zero_le _, rfl, Below.refl _ _, by simp [Hid]⟩
     case round =>
      obtain ⟨k, hk, rfl, hbel, htk⟩ := hrel
      have hww := HW0.out.2.2.trans (hbel.mono HW0.out.2.2.size)
      have hxa := HW0.out.1.below hbel HW0.out.1.lt
      have hxb := HW0.out.2.1.below hbel HW0.out.2.1.lt
      have a2 : wr.cell? ⟨w.heap.size, 2, none⟩ = some (.slice AC cs.length acap) := hxa.cell 2
      have a3 : wr.cell? ⟨w.heap.size, 3, none⟩ = some (.slice AK ks.length kcap) := hxa.cell 3
      have b2 : wr.cell? ⟨w.heap.size + 1, 2, none⟩ = some (.slice BC ds.length bcap) := hxb.cell 2
      have b3 : wr.cell? ⟨w.heap.size + 1, 3, none⟩ = some (.slice BK qs.length qcap) := hxb.cell 3
      have al0 := hxa.lt
      have bl0 := hxb.lt
      have HB := hid (And.intro hbel hww)
      by_cases hlt : k < cs.length
      ·have hlt' : k < ds.length := by rw [← HL3.out]; exact hlt
       obtain ⟨gb, goff, rfl, -, hgb, hc⟩ := HAC.out.at_ hlt
       obtain ⟨gb', goff', rfl, -, hgb', hc'⟩ := HBC.out.at_ hlt'
       replace hc := (hww.cell (p := ⟨gb, goff + k, none⟩) hgb).trans hc
       replace hc' := (hww.cell (p := ⟨gb', goff' + k, none⟩) hgb').trans hc'
       have hbr := lt_of_cell hc
       have hbr' := lt_of_cell hc'
       have HNX := hid (fun e => take_eq_step hlt hlt' htk.out e)
       have HNE := hid (show cs[k] ≠ ds[k] → cs ≠ ds from fun h e => h (by subst e; rfl))
       have hk1 : ((k : Nat) : Int) < (cs.length : Int) := by omega
       have hk2 : ((k : Nat) : Int) < (ds.length : Int) := by omega
       have hk0 : (0 : Int) ≤ ((k : Nat) : Int) := by omega
       clear hbel hww hxa hxb hgb hgb' htk a3 b3
       generalize cs[k] = x at *
       generalize ds[k] = y at *
       by_cases hxy : x = y
       ·have e5 : (x != y) = false := by simp [hxy]
        have HNX2 := hid (HNX.out hxy)
        clear hxy HNX HNE
        go_wp2
        go_quiet (fail)
        go_wp2
        go_roundw
        case rel => exact ⟨k + 1, by omega, by go_num, below_drewN' HB.out.1 _, HNX2⟩
        case measure => simp [intOf]; omega
       ·have e5 : (x != y) = true := by simp [hxy]
        rw [decide_eq_false (HNE.out hxy)] at HE
        clear hxy HNX HNE
        go_wp2
        go_quiet (fail)
        go_wp2
        go_ret
        rw [HE.out]
        exact ⟨rfl, below_drewN' HB.out.2 _⟩
      ·obtain rfl : k = cs.length := by omega
       have heq : cs = ds := by have h := htk.out; rw [List.take_length] at h; rw [h, HL3.out, List.take_length]
       rw [decide_eq_true heq] at HE
       have HX1 := hid (And.intro hxa hxb)
       clear htk heq hbel hxa hxb b2
       go_wp2
       clear a2 a3 b3 al0 bl0
       go_loopw [6] (fun i wr' => ∃ k : Nat, k ≤ ks.length ∧ i = .int .i64 k ∧ Below wr.heap.size wr wr' ∧ Hid (ks.take k = qs.take k)) (fun i _ => ks.length - (intOf i).toNat)
       case atStart => exact ⟨0, Nat.zero_le _, rfl, Below.refl _ _, by simp [Hid]⟩
       case round =>
        obtain ⟨k, hk, rfl, hbel, htk⟩ := hrel
        rename World => W2
        have hww := HB.out.2.trans (hbel.mono HB.out.2.size)
        have hxa := HX1.out.1.below hbel HX1.out.1.lt
        have hxb := HX1.out.2.below hbel HX1.out.2.lt
        have a3 : W2.cell? ⟨w.heap.size, 3, none⟩ = some (.slice AK ks.length kcap) := hxa.cell 3
        have b3 : W2.cell? ⟨w.heap.size + 1, 3, none⟩ = some (.slice BK qs.length qcap) := hxb.cell 3
        have al0 := hxa.lt
        have bl0 := hxb.lt
        have HB2 := hid (And.intro hbel hww)
        by_cases hlt : k < ks.length
        ·have hlt' : k < qs.length := by rw [← HL4.out]; exact hlt
         obtain ⟨gb, goff, rfl, -, hgb, hc⟩ := HAK.out.at_ hlt
         obtain ⟨gb', goff', rfl, -, hgb', hc'⟩ := HBK.out.at_ hlt'
         replace hc := (hww.cell (p := ⟨gb, goff + k, none⟩) hgb).trans hc
         replace hc' := (hww.cell (p := ⟨gb', goff' + k, none⟩) hgb').trans hc'
         have hbr := lt_of_cell hc
         have hbr' := lt_of_cell hc'
         have HNX := hid (fun e => take_eq_step hlt hlt' htk.out e)
         have HNE := hid (show ks[k] ≠ qs[k] → ks ≠ qs from fun h e => h (by subst e; rfl))
         have hk1 : ((k : Nat) : Int) < (ks.length : Int) := by omega
         have hk2 : ((k : Nat) : Int) < (qs.length : Int) := by omega
         have hk0 : (0 : Int) ≤ ((k : Nat) : Int) := by omega
         clear hbel hww hxa hxb hgb hgb' htk
         generalize ks[k] = x at *
         generalize qs[k] = y at *
         by_cases hxy : x = y
         ·have e5 : (x != y) = false := by simp [hxy]
          have HNX2 := hid (HNX.out hxy)
          clear hxy HNX HNE
          go_wp2
          go_quiet (fail)
          go_wp2
          go_roundw
          case rel => exact ⟨k + 1, by omega, by go_num, below_drewN' HB2.out.1 _, HNX2⟩
          case measure => simp [intOf]; omega
         ·have e5 : (x != y) = true := by simp [hxy]
          rw [decide_eq_false (HNE.out hxy)] at HE
          clear hxy HNX HNE
          go_wp2
          go_quiet (fail)
          go_wp2
          go_ret
          rw [HE.out]
          exact ⟨rfl, below_drewN' HB2.out.2 _⟩
        ·obtain rfl : k = ks.length := by omega
         have heq : ks = qs := by have h := htk.out; rw [List.take_length] at h; rw [h, HL4.out, List.take_length]
         rw [decide_eq_true heq] at HE
         clear htk heq hbel hxa hxb
         go_wp2
         go_ret
         rw [HE.out]
         exact ⟨rfl, HB2.out.2⟩
    ·have e4 : ((ks.length : Int) != (qs.length : Int)) = true := by simp; omega
     rw [decide_eq_false (show ¬ ks = qs from fun e => h4 (by rw [e]))] at HE
     simp only [Bool.and_false] at HE
     clear h1 h3 h4
     go_wp2
     go_ret
     rw [HE.out]
     exact ⟨rfl, HW0.out.2.2⟩
   ·have e3 : ((cs.length : Int) != (ds.length : Int)) = true := by simp; omega
    rw [decide_eq_false (show ¬ cs = ds from fun e => h3 (by rw [e]))] at HE
    simp only [Bool.and_false, Bool.false_and] at HE
    clear h1 h3
    go_wp2
    go_ret
    rw [HE.out]
    exact ⟨rfl, HW0.out.2.2⟩
  ·rw [decide_eq_false h2] at HE
   simp only [Bool.and_false, Bool.false_and] at HE
   obtain rfl : bl = !al := by cases al <;> cases bl <;> simp_all
   have e2 : (al != !al) = true := by cases al <;> rfl
   clear h1 h2
   go_wp2
   go_ret
   rw [HE.out]
   exact ⟨rfl, HW0.out.2.2⟩
 ·have e1 : (af != bf) = true := by simp [h1]
  rw [decide_eq_false h1] at HE
  simp only [Bool.false_and] at HE
  clear h1
  go_wp2
  go_ret
  rw [HE.out]
  exact ⟨rfl, HW0.out.2.2⟩
end Go.Proofs.YtcigjmlileckhaaGreatDoor
/- Walks of the reference's Same, size, Small. -/
namespace Go.Proofs.YtcigjmlileckhaaGreatDoor
open Go.RowKit
set_option maxRecDepth 100000 in
set_option maxHeartbeats 8000000 in
theorem refSame_any (Z Z' : Zone) (v v' : Value) (a b : List NodeD) (w : World) (ha : Nodes Z w v a) (hb : Nodes Z' w v' b) :
  Calls Tryz.prog 27 #[.agg #[v], .agg #[v']] w fun e w' => e = .returned (.bool (decide (a = b))) ∧ Below w.heap.size w w' := by
 obtain ⟨A, cap, rfl, hcap, hlen, hat⟩ := ha.open_
 obtain ⟨A', cap', rfl, hcap', hlen', hat'⟩ := hb.open_
 have HA := hid hat
 have HA' := hid hat'
 have hga := (Blk.new w 34 #[.slice A a.length cap]).alloc (.cells #[.slice A' b.length cap'] 34)
 have hgb := Blk.new' (w.alloc (.cells #[.slice A a.length cap] 34)) 34 #[.slice A' b.length cap'] (n := w.heap.size + 1) (by simp)
 have hw0 := (below1 w (.cells #[.slice A a.length cap] 34)).alloc (by simp) (.cells #[.slice A' b.length cap'] 34)
 have HW0 := hid (And.intro hga (And.intro hgb hw0))
 clear hat hat' ha hb hga hgb hw0
 go_enter Tryz.func27, Tryz.ntmps27
 by_cases hl : a.length = b.length
 ·have e1 : ((a.length : Int) != (b.length : Int)) = false := by simp [hl]
  have HL := hid hl
  clear hl
  go_wp2
  go_loopw [5] (fun i wr => ∃ k : Nat, k ≤ a.length ∧ i = .int .i64 k ∧ Blk wr w.heap.size 34 #[.slice A a.length cap] ∧ Blk wr (w.heap.size + 1) 34 #[.slice A' b.length cap'] ∧ Below w.heap.size w wr ∧ Hid (a.take k = b.take k)) (fun i _ => a.length - (intOf i).toNat)
  case atStart => exact ⟨0, Nat.zero_le _, rfl, HW0.out.1, HW0.out.2.1, HW0.out.2.2, by simp [Hid]⟩
  case round =>
   obtain ⟨k, hk, rfl, hga, hgb, hbel, htk⟩ := hrel
   have g0 : wr.cell? ⟨w.heap.size, 0, none⟩ = some (.slice A a.length cap) := hga.cell 0
   have g1 : wr.cell? ⟨w.heap.size + 1, 0, none⟩ = some (.slice A' b.length cap') := hgb.cell 0
   have g0l := hga.lt
   have g1l := hgb.lt
   by_cases hlt : k < a.length
   ·have hlt' : k < b.length := by rw [← HL.out]; exact hlt
    obtain ⟨bb, off, vc, vk, rfl, hz, hbb, c0, c1, c2, c3, hf, hc, hkk⟩ := HA.out k hlt
    obtain ⟨bb', off', vc', vk', rfl, hz', hbb', c0', c1', c2', c3', hf', hc', hkk'⟩ := HA'.out k hlt'
    obtain ⟨VC, ccap, rfl, -⟩ := hc.form
    obtain ⟨VK, kcap, rfl, -⟩ := hkk.form
    obtain ⟨VC', ccap', rfl, -⟩ := hc'.form
    obtain ⟨VK', kcap', rfl, -⟩ := hkk'.form
    have hx : ∀ {p : Nat} {o : Nat} {u : Value}, p < w.heap.size → w.cell? ⟨p, o, none⟩ = some u → wr.cell? ⟨p, o, none⟩ = some u := fun {p o u} hp h => (hbel.cell (p := ⟨p, o, none⟩) hp).trans h
    replace c0 := hx hbb c0
    replace c1 := hx hbb c1
    replace c2 := hx hbb c2
    replace c3 := hx hbb c3
    replace c0' := hx hbb' c0'
    replace c1' := hx hbb' c1'
    replace c2' := hx hbb' c2'
    replace c3' := hx hbb' c3'
    have hbr := lt_of_cell c0
    have hbr' := lt_of_cell c0'
    have HS := hid (fun W (hW : Below w.heap.size w W) => refEqual_any Z Z' a[k] b[k] [.bool a[k].leaf, .int .i64 a[k].fact, .slice VC a[k].cuts.length ccap, .slice VK a[k].kids.length kcap] [.bool b[k].leaf, .int .i64 b[k].fact, .slice VC' b[k].cuts.length ccap', .slice VK' b[k].kids.length kcap'] W (NodeR.keep ⟨_, _, rfl, hf, hc, hkk⟩ (.of_below hW)) (NodeR.keep ⟨_, _, rfl, hf', hc', hkk'⟩ (.of_below hW)))
    have HNX := hid (fun e => take_eq_step hlt hlt' htk.out e)
    have HNE := hid (show a[k] ≠ b[k] → a ≠ b from fun h e => h (by subst e; rfl))
    have hk1 : ((k : Nat) : Int) < (a.length : Int) := by omega
    have hk2 : ((k : Nat) : Int) < (b.length : Int) := by omega
    have hk0 : (0 : Int) ≤ ((k : Nat) : Int) := by omega
    have HB := hid (And.intro hga (And.intro hgb hbel))
    clear hx hbel hga hgb hf hf' hc hc' hkk hkk'
    obtain ⟨⟨x, hxe⟩, ⟨y, hye⟩⟩ : (∃ x, x = a[k]) ∧ (∃ y, y = b[k]) := ⟨⟨_, rfl⟩, ⟨_, rfl⟩⟩
    rw [← hxe] at HS HNX HNE c0 c1 c2 c3
    rw [← hye] at HS HNX HNE c0' c1' c2' c3'
    clear hxe hye
    by_cases hxy : x = y
    ·have HNX2 := hid (HNX.out hxy)
     have HS2 := HS.out
     rw [decide_eq_true hxy] at HS2
     have HS3 := hid HS2
     clear HS HS2 hxy HNX
     go_wp2
     go_region_held3 (fun w' => w'.cell? ⟨w.heap.size, 0, none⟩ = some (.slice (some ⟨bb, off, none⟩) a.length cap) ∧ w'.cell? ⟨w.heap.size + 1, 0, none⟩ = some (.slice (some ⟨bb', off', none⟩) b.length cap') ∧ w'.cell? ⟨bb, off + k * 4, none⟩ = some (.bool x.leaf) ∧ w'.cell? ⟨bb, off + k * 4 + 1, none⟩ = some (.int .i64 x.fact) ∧ w'.cell? ⟨bb, off + k * 4 + 2, none⟩ = some (.slice VC x.cuts.length ccap) ∧ w'.cell? ⟨bb, off + k * 4 + 3, none⟩ = some (.slice VK x.kids.length kcap) ∧ w'.cell? ⟨bb', off' + k * 4, none⟩ = some (.bool y.leaf) ∧ w'.cell? ⟨bb', off' + k * 4 + 1, none⟩ = some (.int .i64 y.fact) ∧ w'.cell? ⟨bb', off' + k * 4 + 2, none⟩ = some (.slice VC' y.cuts.length ccap') ∧ w'.cell? ⟨bb', off' + k * 4 + 3, none⟩ = some (.slice VK' y.kids.length kcap'))
      (first | exact ⟨p0, p1, p2, p3, p4, p5, p6, p7, p8, p9⟩ | (refine ⟨?_, ?_, ?_, ?_, ?_, ?_, ?_, ?_, ?_, ?_⟩ <;> go_keep))
      (first
       | (go_at_call 76; refine (HS3.out _ HB.out.2.2.drew).mono ?_; rintro e w1 ⟨rfl, hb1⟩; have p0 := (hb1.cell (p := ⟨w.heap.size, 0, none⟩) g0l).trans g0; have p1 := (hb1.cell (p := ⟨w.heap.size + 1, 0, none⟩) g1l).trans g1; have p2 := (hb1.cell (p := ⟨bb, off + k * 4, none⟩) hbr).trans c0; have p3 := (hb1.cell (p := ⟨bb, off + k * 4 + 1, none⟩) hbr).trans c1; have p4 := (hb1.cell (p := ⟨bb, off + k * 4 + 2, none⟩) hbr).trans c2; have p5 := (hb1.cell (p := ⟨bb, off + k * 4 + 3, none⟩) hbr).trans c3; have p6 := (hb1.cell (p := ⟨bb', off' + k * 4, none⟩) hbr').trans c0'; have p7 := (hb1.cell (p := ⟨bb', off' + k * 4 + 1, none⟩) hbr').trans c1'; have p8 := (hb1.cell (p := ⟨bb', off' + k * 4 + 2, none⟩) hbr').trans c2'; have p9 := (hb1.cell (p := ⟨bb', off' + k * 4 + 3, none⟩) hbr').trans c3'))
     have HB2 := hid (And.intro (HB.out.1.drew.below hb1 g0l) (And.intro (HB.out.2.1.drew.below hb1 g1l) (HB.out.2.2.drew.trans (hb1.mono HB.out.2.2.size))))
     clear p0 p1 p2 p3 p4 p5 p6 p7 p8 p9 hb1
     go_wp2
     go_roundw
     case rel => exact ⟨k + 1, by omega, by go_num, HB2.out.1, HB2.out.2.1, HB2.out.2.2, HNX2⟩
     case measure => simp [intOf]; omega
    ·have HNE2 := hid (HNE.out hxy)
     have HS2 := HS.out
     rw [decide_eq_false hxy] at HS2
     have HS3 := hid HS2
     clear HS HS2 hxy HNX
     go_wp2
     go_region_held3 (fun w' => w'.cell? ⟨w.heap.size, 0, none⟩ = some (.slice (some ⟨bb, off, none⟩) a.length cap) ∧ w'.cell? ⟨w.heap.size + 1, 0, none⟩ = some (.slice (some ⟨bb', off', none⟩) b.length cap') ∧ w'.cell? ⟨bb, off + k * 4, none⟩ = some (.bool x.leaf) ∧ w'.cell? ⟨bb, off + k * 4 + 1, none⟩ = some (.int .i64 x.fact) ∧ w'.cell? ⟨bb, off + k * 4 + 2, none⟩ = some (.slice VC x.cuts.length ccap) ∧ w'.cell? ⟨bb, off + k * 4 + 3, none⟩ = some (.slice VK x.kids.length kcap) ∧ w'.cell? ⟨bb', off' + k * 4, none⟩ = some (.bool y.leaf) ∧ w'.cell? ⟨bb', off' + k * 4 + 1, none⟩ = some (.int .i64 y.fact) ∧ w'.cell? ⟨bb', off' + k * 4 + 2, none⟩ = some (.slice VC' y.cuts.length ccap') ∧ w'.cell? ⟨bb', off' + k * 4 + 3, none⟩ = some (.slice VK' y.kids.length kcap'))
      (first | exact ⟨p0, p1, p2, p3, p4, p5, p6, p7, p8, p9⟩ | (refine ⟨?_, ?_, ?_, ?_, ?_, ?_, ?_, ?_, ?_, ?_⟩ <;> go_keep))
      (first
       | (go_at_call 76; refine (HS3.out _ HB.out.2.2.drew).mono ?_; rintro e w1 ⟨rfl, hb1⟩; have p0 := (hb1.cell (p := ⟨w.heap.size, 0, none⟩) g0l).trans g0; have p1 := (hb1.cell (p := ⟨w.heap.size + 1, 0, none⟩) g1l).trans g1; have p2 := (hb1.cell (p := ⟨bb, off + k * 4, none⟩) hbr).trans c0; have p3 := (hb1.cell (p := ⟨bb, off + k * 4 + 1, none⟩) hbr).trans c1; have p4 := (hb1.cell (p := ⟨bb, off + k * 4 + 2, none⟩) hbr).trans c2; have p5 := (hb1.cell (p := ⟨bb, off + k * 4 + 3, none⟩) hbr).trans c3; have p6 := (hb1.cell (p := ⟨bb', off' + k * 4, none⟩) hbr').trans c0'; have p7 := (hb1.cell (p := ⟨bb', off' + k * 4 + 1, none⟩) hbr').trans c1'; have p8 := (hb1.cell (p := ⟨bb', off' + k * 4 + 2, none⟩) hbr').trans c2'; have p9 := (hb1.cell (p := ⟨bb', off' + k * 4 + 3, none⟩) hbr').trans c3'))
     have hbw := HB.out.2.2.drew.trans (hb1.mono HB.out.2.2.size)
     clear p0 p1 p2 p3 p4 p5 p6 p7 p8 p9 hb1
     go_wp2
     go_ret
     rw [decide_eq_false HNE2.out]
     exact ⟨rfl, hbw⟩
   ·obtain rfl : k = a.length := by omega
    have HEQ := hid (show a = b from by have h := htk.out; rw [List.take_length] at h; rw [h, HL.out, List.take_length])
    clear htk hga hgb
    go_wp2
    go_ret
    rw [decide_eq_true HEQ.out]
    exact ⟨rfl, hbel⟩
 ·have e1 : ((a.length : Int) != (b.length : Int)) = true := by simp; omega
  have HN := hid (show a ≠ b from fun e => hl (by rw [e]))
  clear hl
  go_wp2
  go_ret
  rw [decide_eq_false HN.out]
  exact ⟨rfl, HW0.out.2.2⟩
mutual
/-- The number of nodes, or more than n. -/
def sizeC : Fm → Int → Int
 | .mk _ _ _ _ kids, n => sizesC kids 1 n
def sizesC : List Fm → Int → Int → Int
 | [], out, _ => out
 | k :: r, out, n => if out ≤ n then sizesC r (out + sizeC k (n - out)) n else out
end
mutual
theorem sizeC_le : ∀ (f : Fm) (n : Int), 1 ≤ sizeC f n ∧ (sizeC f n ≤ n + 1 ∨ sizeC f n = 1)
 | .mk _ _ _ _ kids, n => by
  rw [sizeC]
  obtain ⟨h1, h2⟩ := sizesC_le kids 1 n
  exact ⟨h1, by omega⟩
theorem sizesC_le : ∀ (l : List Fm) (out n : Int), out ≤ sizesC l out n ∧ (sizesC l out n ≤ n + 1 ∨ sizesC l out n = out)
 | [], out, n => by rw [sizesC]; omega
 | k :: r, out, n => by
  rw [sizesC]
  split
  ·rename_i h
   obtain ⟨h1, h2⟩ := sizeC_le k (n - out)
   obtain ⟨h3, h4⟩ := sizesC_le r (out + sizeC k (n - out)) n
   omega
  ·omega
end
mutual
theorem sizeC_iff : ∀ (f : Fm) (n : Int), sizeC f n ≤ n ↔ (fsize f : Int) ≤ n
 | .mk _ _ _ _ kids, n => by
  rw [sizeC, fsize]
  have := sizesC_iff kids 1 n
  rw [this]
  push_cast
  omega
theorem sizesC_iff : ∀ (l : List Fm) (out n : Int), sizesC l out n ≤ n ↔ out + (fsizes l : Int) ≤ n
 | [], out, n => by rw [sizesC, fsizes]; simp
 | k :: r, out, n => by
  rw [sizesC, fsizes]
  have hk := fsize_pos k
  split
  ·rename_i h
   have h1 := sizeC_iff k (n - out)
   have h2 := sizesC_iff r (out + sizeC k (n - out)) n
   have h3 := sizeC_val k (n - out)
   rw [h2]
   push_cast
   constructor
   ·intro h4
    have := h3 (by omega)
    omega
   ·intro h4
    have := h3 (h1.2 (by omega))
    omega
  ·push_cast; omega
theorem sizeC_val : ∀ (f : Fm) (n : Int), sizeC f n ≤ n → sizeC f n = fsize f
 | .mk _ _ _ _ kids, n, h => by
  rw [sizeC] at h ⊢
  rw [fsize]
  have := sizesC_val kids 1 n h
  rw [this]; push_cast; omega
theorem sizesC_val : ∀ (l : List Fm) (out n : Int), sizesC l out n ≤ n → sizesC l out n = out + fsizes l
 | [], out, n, _ => by rw [sizesC, fsizes]; simp
 | k :: r, out, n, h => by
  rw [sizesC] at h ⊢
  rw [fsizes]
  split at h
  ·rename_i ho
   rw [if_pos ho]
   have h1 := sizesC_val r (out + sizeC k (n - out)) n h
   have h2 := (sizesC_le r (out + sizeC k (n - out)) n).1
   have h3 := sizeC_val k (n - out) (by omega)
   rw [h1, h3]; push_cast; omega
  ·rename_i ho; omega
end
end Go.Proofs.YtcigjmlileckhaaGreatDoor
