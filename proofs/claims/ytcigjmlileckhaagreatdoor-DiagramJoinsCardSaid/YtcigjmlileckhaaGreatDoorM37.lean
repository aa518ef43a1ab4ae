/- Walks of the reference's Starts, Cells. The walk of the statements' measure: small. -/
import Derived.Test.YtcigjmlileckhaaGreatDoorM36
import Derived.Laws.BitsLemmas
/- Walks of the reference's Starts, Cells. -/
namespace Go.Proofs.YtcigjmlileckhaaGreatDoor
open Go.RowKit
def startsR (f : Fm) (x : FactD) : List Int := testsS x.name x.lo x.hi f [x.lo]
theorem startsR_len (f : Fm) (x : FactD) : 1 ≤ (startsR f x).length ∧ (startsR f x).length ≤ 1 + 2 * fsize f := by
 obtain ⟨h1, h2⟩ := testsS_len x.name x.lo x.hi f [x.lo]
 have := List.length_pos_iff.2 (h2 (by simp))
 unfold startsR
 simp at h1
 omega
set_option maxRecDepth 100000 in
set_option maxHeartbeats 4000000 in
theorem refStarts_any (Z : Zone) (f : Fm) (x : FactD) (cs : List Value) (w : World) (hf : FmR Z w f cs) (hs : fsize f ≤ 1000) (hx : x.fit) :
  Calls Tryz.prog 85 #[.agg cs.toArray, .agg #[.string x.name, .int .i64 x.kind, .int .i64 x.lo, .int .i64 x.hi]] w fun e w' => ∃ v', e = .returned v' ∧ Ints (fun b => w.heap.size ≤ b) w' v' (startsR f x) ∧ Below w.heap.size w w' := by
 obtain ⟨A, cap, rfl⟩ := FmR.form hf
 have hb2 := ((below1 w (.cells #[.int .i64 f.op, .string f.name, .int .i64 f.cmp, .int .i64 f.num, .slice A f.kids.length cap] 24)).alloc (by simp) (.cells #[.string x.name, .int .i64 x.kind, .int .i64 x.lo, .int .i64 x.hi] 82)).alloc (by simp; omega) (.cells #[.int .i64 x.lo] 3)
 have hown := own_of_blk (W := ((w.alloc (.cells #[.int .i64 f.op, .string f.name, .int .i64 f.cmp, .int .i64 f.num, .slice A f.kids.length cap] 24)).alloc (.cells #[.string x.name, .int .i64 x.kind, .int .i64 x.lo, .int .i64 x.hi] 82)).alloc (.cells #[.int .i64 x.lo] 3)) (base := w.heap.size) (g := w.heap.size + 1 + 1) (Blk.new' _ 3 #[.int .i64 x.lo] (by simp)) (by omega) (by simp [maxLen])
 have hin := Ints.of_own (xs := [x.lo]) hown (fun y hy => by simp at hy; subst hy; exact hx.2.2.1) (by simp)
 have HC := hid (refTests_any x.name x.lo x.hi (fsize f) f (Nat.le_refl _) Z _ _ _ [x.lo] _ (FmR.keep (.of_below hb2) _ _ hf) hin (by simp) (by simp; omega))
 have HB := hid hb2
 clear hf hb2 hown hin
 go_enter Tryz.func85, Tryz.ntmps85
 go_wp2_with fail
 refine HC.out.mono ?_
 rintro e w1 ⟨v1, rfl, hin1, hb1⟩
 have hbw := HB.out.trans (hb1.mono HB.out.size)
 have HI := hid (show Ints (fun b => w.heap.size ≤ b) w1 v1 (startsR f x) from hin1.mono fun b hb => by
  rcases hb with hb | hb
  ·exact hb
  ·exact Nat.le_trans HB.out.size hb)
 clear hin1 hb1
 go_wp2
 go_ret
 exact ⟨_, rfl, HI.out, hbw⟩
theorem wrapI_id {q : Int} (h0 : -9223372036854775808 ≤ q) (h1 : q ≤ 9223372036854775807) : IntKind.i64.wrap q = q := by rw [IntKind.wrap_i64]; omega
theorem mul_bound {a b A B : Int} (h0 : 1 ≤ a) (h1 : a ≤ A) (h2 : 1 ≤ b) (h3 : b ≤ B) : 1 ≤ a * b ∧ a * b ≤ A * B := by
 have e1 := Int.mul_le_mul h0 h2 (by omega) (by omega)
 have e2 := Int.mul_le_mul h1 h3 (by omega) (by omega)
 omega
/-- The number of cells, or one more than n. -/
def cellsR (f : Fm) (n : Int) : List FactD → Int → Int
 | [], out => out
 | x :: r, out => if n < out * (startsR f x).length then n + 1 else cellsR f n r (out * (startsR f x).length)
set_option maxRecDepth 100000 in
set_option maxHeartbeats 8000000 in
theorem refCells_any (Z Zd : Zone) (f : Fm) (cs : List Value) (vd : Value) (ds : List FactD) (n : Int) (w : World) (hf : FmR Z w f cs) (hd : Facts Zd w vd ds) (hs : fsize f ≤ 1000) (h0 : 1 ≤ n) (h1 : n ≤ 1000000) :
  Calls Tryz.prog 37 #[.agg cs.toArray, .agg #[vd], .int .i64 n] w fun e w' => e = .returned (.int .i64 (cellsR f n ds 1)) ∧ Below w.heap.size w w' := by
 have HF := hid hf
 obtain ⟨A, cap, rfl⟩ := FmR.form hf
 obtain ⟨D, dcap, rfl, hdcap, hdlen, hdat⟩ := hd.open_
 have HD := hid hdat
 have hbx := (Blk.new w 24 #[.int .i64 f.op, .string f.name, .int .i64 f.cmp, .int .i64 f.num, .slice A f.kids.length cap]).alloc (.cells #[.slice D ds.length dcap] 27)
 have hbd := Blk.new' (w.alloc (.cells #[.int .i64 f.op, .string f.name, .int .i64 f.cmp, .int .i64 f.num, .slice A f.kids.length cap] 24)) 27 #[.slice D ds.length dcap] (n := w.heap.size + 1) (by simp)
 have hb0 := (below1 w (.cells #[.int .i64 f.op, .string f.name, .int .i64 f.cmp, .int .i64 f.num, .slice A f.kids.length cap] 24)).alloc (by simp) (.cells #[.slice D ds.length dcap] 27)
 have HW0 := hid (And.intro hbx (And.intro hbd hb0))
 clear hf hd hdat hbx hbd hb0
 go_enter Tryz.func37, Tryz.ntmps37
 go_wp2
 go_loopw [7, 8] (fun o i wr => ∃ (k : Nat) (out : Int), k ≤ ds.length ∧ i = .int .i64 k ∧ o = .int .i64 out ∧ 1 ≤ out ∧ out ≤ n ∧ Blk wr w.heap.size 24 #[.int .i64 f.op, .string f.name, .int .i64 f.cmp, .int .i64 f.num, .slice A f.kids.length cap] ∧ Blk wr (w.heap.size + 1) 27 #[.slice D ds.length dcap] ∧ Below w.heap.size w wr ∧ Hid (cellsR f n ds 1 = cellsR f n (ds.drop k) out)) (fun _ i _ => ds.length - (intOf i).toNat)
 case atStart => exact ⟨0, 1, Nat.zero_le _, rfl, rfl, by omega, h0, HW0.out.1, HW0.out.2.1, HW0.out.2.2, rfl⟩
 case round =>
  obtain ⟨k, out, hk, rfl, rfl, ho1, ho2, hbx, hbd, hbel, hres⟩ := hrel
  have d0 : wr.cell? ⟨w.heap.size + 1, 0, none⟩ = some (.slice D ds.length dcap) := hbd.cell 0
  have d0l := hbd.lt
  have b0l := hbx.lt
  have HB := hid (And.intro hbx (And.intro hbd hbel))
  by_cases hlt : k < ds.length
  ·obtain ⟨fb, foff, rfl, -, hfbl, x0, x1, x2, x3, hfit⟩ := HD.out k hlt
   replace x0 := (hbel.cell (p := ⟨fb, foff + k * 4, none⟩) hfbl).trans x0
   replace x1 := (hbel.cell (p := ⟨fb, foff + k * 4 + 1, none⟩) hfbl).trans x1
   replace x2 := (hbel.cell (p := ⟨fb, foff + k * 4 + 2, none⟩) hfbl).trans x2
   replace x3 := (hbel.cell (p := ⟨fb, foff + k * 4 + 3, none⟩) hfbl).trans x3
   have x0l := lt_of_cell x0
   have b0 : wr.cell? ⟨w.heap.size, 0, none⟩ = some (.int .i64 f.op) := hbx.cell 0
   have b1 : wr.cell? ⟨w.heap.size, 1, none⟩ = some (.string f.name) := hbx.cell 1
   have b2 : wr.cell? ⟨w.heap.size, 2, none⟩ = some (.int .i64 f.cmp) := hbx.cell 2
   have b3 : wr.cell? ⟨w.heap.size, 3, none⟩ = some (.int .i64 f.num) := hbx.cell 3
   have b4 : wr.cell? ⟨w.heap.size, 4, none⟩ = some (.slice A f.kids.length cap) := hbx.cell 4
   have hdr : ds.drop k = ds[k] :: ds.drop (k + 1) := List.drop_eq_getElem_cons hlt
   have hres' := hres.out
   rw [hdr, cellsR] at hres'
   have HC := hid (fun W (hW : Below w.heap.size w W) => refStarts_any Z f ds[k] _ W (FmR.keep (.of_below hW) _ _ HF.out) hs hfit)
   have hsl := startsR_len f ds[k]
   have hk1 : ((k : Nat) : Int) < (ds.length : Int) := by omega
   have hk0 : (0 : Int) ≤ ((k : Nat) : Int) := by omega
   have HR := hid hres'
   clear hres hres' hdr hbx hbd hbel
   generalize ds[k] = x at *
   go_wp2
   go_region_held3 (fun w' => w'.cell? ⟨w.heap.size, 0, none⟩ = some (.int .i64 f.op) ∧ w'.cell? ⟨w.heap.size, 1, none⟩ = some (.string f.name) ∧ w'.cell? ⟨w.heap.size, 2, none⟩ = some (.int .i64 f.cmp) ∧ w'.cell? ⟨w.heap.size, 3, none⟩ = some (.int .i64 f.num) ∧ w'.cell? ⟨w.heap.size, 4, none⟩ = some (.slice A f.kids.length cap) ∧ w'.cell? ⟨w.heap.size + 1, 0, none⟩ = some (.slice (some ⟨fb, foff, none⟩) ds.length dcap) ∧ w'.cell? ⟨fb, foff + k * 4, none⟩ = some (.string x.name) ∧ w'.cell? ⟨fb, foff + k * 4 + 1, none⟩ = some (.int .i64 x.kind) ∧ w'.cell? ⟨fb, foff + k * 4 + 2, none⟩ = some (.int .i64 x.lo) ∧ w'.cell? ⟨fb, foff + k * 4 + 3, none⟩ = some (.int .i64 x.hi))
    (first | exact ⟨p0, p1, p2, p3, p4, p5, p6, p7, p8, p9⟩ | (refine ⟨?_, ?_, ?_, ?_, ?_, ?_, ?_, ?_, ?_, ?_⟩ <;> go_keep))
    (first
     | (go_at_call 85; refine (HC.out _ HB.out.2.2.drew).mono ?_; rintro e w6 ⟨v6, rfl, hin6, hb6⟩; obtain ⟨A6, cap6, rfl, -⟩ := hin6.form; have hbx6 := HB.out.1.drew.below hb6 b0l; have hbd6 := HB.out.2.1.drew.below hb6 d0l; have p0 : w6.cell? ⟨w.heap.size, 0, none⟩ = some (.int .i64 f.op) := hbx6.cell 0; have p1 : w6.cell? ⟨w.heap.size, 1, none⟩ = some (.string f.name) := hbx6.cell 1; have p2 : w6.cell? ⟨w.heap.size, 2, none⟩ = some (.int .i64 f.cmp) := hbx6.cell 2; have p3 : w6.cell? ⟨w.heap.size, 3, none⟩ = some (.int .i64 f.num) := hbx6.cell 3; have p4 : w6.cell? ⟨w.heap.size, 4, none⟩ = some (.slice A f.kids.length cap) := hbx6.cell 4; have p5 : w6.cell? ⟨w.heap.size + 1, 0, none⟩ = some (.slice (some ⟨fb, foff, none⟩) ds.length dcap) := hbd6.cell 0; have p6 := (hb6.cell (p := ⟨fb, foff + k * 4, none⟩) x0l).trans x0; have p7 := (hb6.cell (p := ⟨fb, foff + k * 4 + 1, none⟩) x0l).trans x1; have p8 := (hb6.cell (p := ⟨fb, foff + k * 4 + 2, none⟩) x0l).trans x2; have p9 := (hb6.cell (p := ⟨fb, foff + k * 4 + 3, none⟩) x0l).trans x3))
   have hmb := mul_bound ho1 (show out ≤ 1000000 by omega) (show (1 : Int) ≤ ((startsR f x).length : Int) by omega) (show ((startsR f x).length : Int) ≤ 2001 by omega)
   have HB6 := hid (And.intro hbx6 (And.intro hbd6 (HB.out.2.2.drew.trans (hb6.mono HB.out.2.2.size))))
   have hwr := wrapI_id (q := out * ((startsR f x).length : Int)) (by omega) (by omega)
   rw [hwr]
   clear hwr p0 p1 p2 p3 p4 p5 p6 p7 p8 p9 hin6 hb6 hbx6 hbd6 HC hsl d0 d0l b0l b0 b1 b2 b3 b4 x0 x1 x2 x3 x0l
   generalize out * ((startsR f x).length : Int) = q at *
   by_cases hnq : n < q
   ·rw [if_pos hnq] at HR
    have e1 : decide (n < q) = true := by simpa using hnq
    clear hnq
    go_wp2
    go_ret
    rw [HR.out]
    exact ⟨rfl, HB6.out.2.2⟩
   ·rw [if_neg hnq] at HR
    have e1 : decide (n < q) = false := by simpa using hnq
    have hq2 : q ≤ n := by omega
    clear hnq
    go_wp2
    go_roundw
    case rel => exact ⟨k + 1, q, by omega, by go_num, rfl, hmb.1, hq2, HB6.out.1, HB6.out.2.1, HB6.out.2.2, HR⟩
    case measure => simp [intOf]; omega
  ·obtain rfl : k = ds.length := by omega
   have hres' := hres.out
   rw [List.drop_length, cellsR] at hres'
   have HR := hid hres'
   clear hres hres' hbx hbd hbel
   go_wp2
   go_ret
   rw [HR.out]
   exact ⟨rfl, HB.out.2.2⟩
end Go.Proofs.YtcigjmlileckhaaGreatDoor
/- The walk of the statements' measure: small. -/
namespace Go.Proofs.YtcigjmlileckhaaGreatDoor
open Go.RowKit
/-- What the measure answers. -/
def smallS (f : Fm) (ds : List FactD) : Bool := decide (fsize f ≤ 250) && (decide (ds.length ≤ 70) && decide (cellsR f 400 ds 1 ≤ 400))
set_option maxRecDepth 100000 in
set_option maxHeartbeats 8000000 in
theorem small_any (Z Zd : Zone) (f : Fm) (cs : List Value) (vd : Value) (ds : List FactD) (w : World) (hf : FmR Z w f cs) (hd : Facts Zd w vd ds) :
  Calls Tryz.prog 11 #[.agg cs.toArray, .agg #[vd]] w fun e w' => e = .returned (.bool (smallS f ds)) ∧ Below w.heap.size w w' := by
 have HF := hid hf
 have HD := hid hd
 obtain ⟨A, cap, rfl⟩ := FmR.form hf
 obtain ⟨D, dcap, rfl, -, -, -⟩ := hd.open_
 have hb2 := (below1 w (.cells #[.int .i64 f.op, .string f.name, .int .i64 f.cmp, .int .i64 f.num, .slice A f.kids.length cap] 24)).alloc (by simp) (.cells #[.slice D ds.length dcap] 27)
 have hbf := (Blk.new w 24 #[.int .i64 f.op, .string f.name, .int .i64 f.cmp, .int .i64 f.num, .slice A f.kids.length cap]).alloc (.cells #[.slice D ds.length dcap] 27)
 have hbd := Blk.new' (w.alloc (.cells #[.int .i64 f.op, .string f.name, .int .i64 f.cmp, .int .i64 f.num, .slice A f.kids.length cap] 24)) 27 #[.slice D ds.length dcap] (n := w.heap.size + 1) (by simp)
 have HS := hid (refSmall_any Z f _ 250 _ (FmR.keep (.of_below hb2) _ _ hf) (by omega) (by omega))
 have HB := hid (And.intro hbf (And.intro hbd hb2))
 clear hb2 hbf hbd hf hd
 go_enter Tryz.func11, Tryz.ntmps11
 by_cases h1 : fsize f ≤ 250
 ·rw [decide_eq_true (show (fsize f : Int) ≤ 250 by omega)] at HS
  have H1 := hid h1
  clear h1
  go_wp2_with fail
  refine HS.out.mono ?_
  rintro e w1 ⟨rfl, hb⟩
  have hbf := HB.out.1.below hb HB.out.1.lt
  have hbd := HB.out.2.1.below hb HB.out.2.1.lt
  have hbw := HB.out.2.2.trans (hb.mono HB.out.2.2.size)
  have d0 : w1.cell? ⟨w.heap.size + 1, 0, none⟩ = some (.slice D ds.length dcap) := hbd.cell 0
  have dl := hbd.lt
  by_cases h2 : ds.length ≤ 70
  ·have e2 : decide ((ds.length : Int) ≤ 70) = true := decide_eq_true (by omega)
   have HC := hid (refCells_any Z Zd f _ (.slice D ds.length dcap) ds 400 w1 (FmR.keep (.of_below hbw) _ _ HF.out) (HD.out.keep (.of_below hbw)) (by have := H1.out; omega) (by omega) (by omega))
   have f0 : w1.cell? ⟨w.heap.size, 0, none⟩ = some (.int .i64 f.op) := hbf.cell 0
   have f1 : w1.cell? ⟨w.heap.size, 1, none⟩ = some (.string f.name) := hbf.cell 1
   have f2 : w1.cell? ⟨w.heap.size, 2, none⟩ = some (.int .i64 f.cmp) := hbf.cell 2
   have f3 : w1.cell? ⟨w.heap.size, 3, none⟩ = some (.int .i64 f.num) := hbf.cell 3
   have f4 : w1.cell? ⟨w.heap.size, 4, none⟩ = some (.slice A f.kids.length cap) := hbf.cell 4
   have fl := hbf.lt
   have H2 := hid h2
   have HW := hid hbw
   clear hbf hbd hbw hb HB HS h2
   go_wp2_with fail
   refine HC.out.mono ?_
   rintro e w2 ⟨rfl, hb⟩
   have hbw := HW.out.trans (hb.mono HW.out.size)
   have HW2 := hid hbw
   clear d0 dl f0 f1 f2 f3 f4 fl hb hbw HC HW
   go_wp2_with fail
   exact bodyPost_ret (v := .bool (smallS f ds)) (by simp [results, Tryz.results11, go_sem, smallS, H1.out, H2.out]) rfl ⟨rfl, HW2.out⟩
  ·have e2 : decide ((ds.length : Int) ≤ 70) = false := decide_eq_false (by omega)
   have H2 := hid h2
   have HW := hid hbw
   clear hbf hbd hbw hb HB HS h2
   go_wp2_with fail
   exact bodyPost_ret (v := .bool (smallS f ds)) (by simp [results, Tryz.results11, go_sem, smallS, H2.out]) rfl ⟨rfl, HW.out⟩
 ·rw [decide_eq_false (show ¬ (fsize f : Int) ≤ 250 by omega)] at HS
  have H1 := hid h1
  clear h1
  go_wp2_with fail
  refine HS.out.mono ?_
  rintro e w1 ⟨rfl, hb⟩
  have hbw := HB.out.2.2.trans (hb.mono HB.out.2.2.size)
  have HW := hid hbw
  clear hb hbw HB HS
  go_wp2_with fail
  exact bodyPost_ret (v := .bool (smallS f ds)) (by simp [results, Tryz.results11, go_sem, smallS, H1.out]) rfl ⟨rfl, HW.out⟩
end Go.Proofs.YtcigjmlileckhaaGreatDoor
