/- Two diagrams and a domain in boxes; And where it refuses. -/
import Derived.Test.YtcigjmlileckhaaGreatDoorM15
import Derived.Test.YtcigjmlileckhaaGreatDoorM38
/- Two diagrams and a domain in boxes; And where it refuses. -/
namespace Go.Proofs.YtcigjmlileckhaaGreatDoor
open Go.RowKit
/-- The boxes of two diagrams and a domain. -/
structure Dw (w0 w : World) (va vb vd : Value) (a b : List NodeD) (ds : List FactD) (Z : Zone) : Prop where
 ab : Blk w w0.heap.size 34 #[va]
 bb : Blk w (w0.heap.size + 1) 34 #[vb]
 db : Blk w (w0.heap.size + 1 + 1) 27 #[vd]
 na : Nodes Z w va a
 nb : Nodes Z w vb b
 fs : Facts Z w vd ds
 below : Below w0.heap.size w0 w
 tab : TabB w.heap.size w
 zone : ∀ b, Z b → b < w.heap.size
theorem Dw.on {w0 w w' : World} {va vb vd : Value} {a b : List NodeD} {ds : List FactD} {Z : Zone} (h : Dw w0 w va vb vd a b ds Z) (hb : Below w.heap.size w w') : Dw w0 w' va vb vd a b ds Z :=
 ⟨h.ab.below hb h.ab.lt, h.bb.below hb h.bb.lt, h.db.below hb h.db.lt, h.na.keep (.of_below hb), h.nb.keep (.of_below hb), h.fs.keep (.of_below hb), h.below.trans (hb.mono h.below.size), (h.tab.on hb).mono hb.size, fun b hz => Nat.lt_of_lt_of_le (h.zone b hz) hb.size⟩
theorem Dw.start {Z : Zone} {w : World} {va vb vd : Value} {a b : List NodeD} {ds : List FactD} (ha : Nodes Z w va a) (hb : Nodes Z w vb b) (hd : Facts Z w vd ds) (hz : ∀ b, Z b → b < w.heap.size) (htab : TabB w.heap.size w) :
  Dw w (((w.alloc (.cells #[va] 34)).alloc (.cells #[vb] 34)).alloc (.cells #[vd] 27)) va vb vd a b ds Z := by
 have hb3 := ((below1 w (.cells #[va] 34)).alloc (by simp) (.cells #[vb] 34)).alloc (by simp; omega) (.cells #[vd] 27)
 exact ⟨((Blk.new w _ _).alloc _).alloc _, (Blk.new' (w.alloc (.cells #[va] 34)) _ _ (by simp)).alloc _, Blk.new' ((w.alloc (.cells #[va] 34)).alloc (.cells #[vb] 34)) _ _ (by simp), ha.keep (.of_below hb3), hb.keep (.of_below hb3), hd.keep (.of_below hb3), hb3, (htab.on hb3).mono hb3.size, fun b h => Nat.lt_of_lt_of_le (hz b h) hb3.size⟩
set_option maxRecDepth 100000 in
set_option maxHeartbeats 8000000 in
theorem and_refuses (Z : Zone) (va vb vd : Value) (a b : List NodeD) (ds : List FactD) (w : World) (ha : Nodes Z w va a) (hb : Nodes Z w vb b) (hd : Facts Z w vd ds) (hz : ∀ b, Z b → b < w.heap.size) (htab : TabB w.heap.size w) (hv : validS ds a = false ∨ validS ds b = false) :
  Calls Tryz.prog 24 #[.agg #[va], .agg #[vb], .agg #[vd]] w fun e w' => e = .returned (.tuple #[.agg #[.slice none 0 0], .int .i64 1]) ∧ Below w.heap.size w w' := by
 obtain ⟨AA, acap, rfl, -, -, -⟩ := ha.open_
 obtain ⟨AB, bcap, rfl, -, -, -⟩ := hb.open_
 obtain ⟨D, dcap, rfl, -, -, -⟩ := hd.open_
 have HL := hid (Dw.start ha hb hd hz htab)
 clear ha hb hd hz htab
 go_enter Tryz.func24, Tryz.ntmps24
 have HR := hid (Blk.new' (((w.alloc (.cells #[.slice AA a.length acap] 34)).alloc (.cells #[.slice AB b.length bcap] 34)).alloc (.cells #[.slice D ds.length dcap] 27)) 34 #[.slice none 0 0] (n := w.heap.size + 1 + 1 + 1) (by simp))
 replace HL := hid (HL.out.on ((below1 _ (.cells #[.slice none 0 0] 34)).mono (Nat.le_refl _)))
 go_upto_region 1 with fail
 generalize (((w.alloc (.cells #[.slice AA a.length acap] 34)).alloc (.cells #[.slice AB b.length bcap] 34)).alloc (.cells #[.slice D ds.length dcap] 27)).alloc (.cells #[.slice none 0 0] 34) = w1 at *
 have a0 : w1.cell? ⟨w.heap.size, 0, none⟩ = some (.slice AA a.length acap) := HL.out.ab.cell 0
 have al : w.heap.size < w1.heap.size := HL.out.ab.lt
 have b0 : w1.cell? ⟨w.heap.size + 1, 0, none⟩ = some (.slice AB b.length bcap) := HL.out.bb.cell 0
 have bl : w.heap.size + 1 < w1.heap.size := HL.out.bb.lt
 have d0 : w1.cell? ⟨w.heap.size + 1 + 1, 0, none⟩ = some (.slice D ds.length dcap) := HL.out.db.cell 0
 have dl : w.heap.size + 1 + 1 < w1.heap.size := HL.out.db.lt
 have r0 : w1.cell? ⟨w.heap.size + 1 + 1 + 1, 0, none⟩ = some (.slice none 0 0) := HR.out.cell 0
 have rl : w.heap.size + 1 + 1 + 1 < w1.heap.size := HR.out.lt
 by_cases hva : validS ds a = true
 ·have HVA := hid hva
  have HVB := hid (show validS ds b = false from by rcases hv with h | h <;> first | exact h | (rw [hva] at h; cases h))
  clear hva hv
  have HC := hid (dvalid_any Z (.slice AA a.length acap) (.slice D ds.length dcap) a ds _ HL.out.na HL.out.fs HL.out.tab)
  rw [HVA.out] at HC
  go_wp2_with fail
  refine HC.out.mono ?_
  rintro e w2 ⟨rfl, hb⟩
  replace HL := hid (HL.out.on hb)
  replace HR := hid (HR.out.below hb HR.out.lt)
  clear hb HC a0 al b0 bl d0 dl r0 rl
  have a0 : w2.cell? ⟨w.heap.size, 0, none⟩ = some (.slice AA a.length acap) := HL.out.ab.cell 0
  have al : w.heap.size < w2.heap.size := HL.out.ab.lt
  have b0 : w2.cell? ⟨w.heap.size + 1, 0, none⟩ = some (.slice AB b.length bcap) := HL.out.bb.cell 0
  have bl : w.heap.size + 1 < w2.heap.size := HL.out.bb.lt
  have d0 : w2.cell? ⟨w.heap.size + 1 + 1, 0, none⟩ = some (.slice D ds.length dcap) := HL.out.db.cell 0
  have dl : w.heap.size + 1 + 1 < w2.heap.size := HL.out.db.lt
  have r0 : w2.cell? ⟨w.heap.size + 1 + 1 + 1, 0, none⟩ = some (.slice none 0 0) := HR.out.cell 0
  have rl : w.heap.size + 1 + 1 + 1 < w2.heap.size := HR.out.lt
  have rz : w2.frozen? ⟨w.heap.size + 1 + 1 + 1, 0, none⟩ = false := HR.out.frozen 0
  have HC := hid (dvalid_any Z (.slice AB b.length bcap) (.slice D ds.length dcap) b ds _ HL.out.nb HL.out.fs HL.out.tab)
  rw [HVB.out] at HC
  go_wp2_with fail
  refine HC.out.mono ?_
  rintro e w3 ⟨rfl, hb⟩
  replace HL := hid (HL.out.on hb)
  replace HR := hid (HR.out.below hb HR.out.lt)
  clear hb HC a0 al b0 bl d0 dl r0 rl rz
  have a0 : w3.cell? ⟨w.heap.size, 0, none⟩ = some (.slice AA a.length acap) := HL.out.ab.cell 0
  have al : w.heap.size < w3.heap.size := HL.out.ab.lt
  have b0 : w3.cell? ⟨w.heap.size + 1, 0, none⟩ = some (.slice AB b.length bcap) := HL.out.bb.cell 0
  have bl : w.heap.size + 1 < w3.heap.size := HL.out.bb.lt
  have d0 : w3.cell? ⟨w.heap.size + 1 + 1, 0, none⟩ = some (.slice D ds.length dcap) := HL.out.db.cell 0
  have dl : w.heap.size + 1 + 1 < w3.heap.size := HL.out.db.lt
  have r0 : w3.cell? ⟨w.heap.size + 1 + 1 + 1, 0, none⟩ = some (.slice none 0 0) := HR.out.cell 0
  have rl : w.heap.size + 1 + 1 + 1 < w3.heap.size := HR.out.lt
  have rz : w3.frozen? ⟨w.heap.size + 1 + 1 + 1, 0, none⟩ = false := HR.out.frozen 0
  have r9 : (w3.setCell ⟨w.heap.size + 1 + 1 + 1, 0, none⟩ (.slice none 0 0)).cell? ⟨w.heap.size + 1 + 1 + 1, 0, none⟩ = some (.slice none 0 0) := (HR.out.set_ 0 _).cell 0
  have R9 := hid r9
  clear r9
  go_wp2_with fail
  exact bodyPost_ret (v := .tuple #[.agg #[.slice none 0 0], .int .i64 1]) (by simp [results, Tryz.results24, go_sem, R9.out]) rfl ⟨rfl, (HL.out.below.setCell (by simp; omega) _)⟩
 ·have HVA := hid (show validS ds a = false from by simpa using hva)
  clear hva hv
  have HC := hid (dvalid_any Z (.slice AA a.length acap) (.slice D ds.length dcap) a ds _ HL.out.na HL.out.fs HL.out.tab)
  rw [HVA.out] at HC
  go_wp2_with fail
  refine HC.out.mono ?_
  rintro e w2 ⟨rfl, hb⟩
  replace HL := hid (HL.out.on hb)
  replace HR := hid (HR.out.below hb HR.out.lt)
  clear hb HC a0 al b0 bl d0 dl r0 rl
  have a0 : w2.cell? ⟨w.heap.size, 0, none⟩ = some (.slice AA a.length acap) := HL.out.ab.cell 0
  have al : w.heap.size < w2.heap.size := HL.out.ab.lt
  have b0 : w2.cell? ⟨w.heap.size + 1, 0, none⟩ = some (.slice AB b.length bcap) := HL.out.bb.cell 0
  have bl : w.heap.size + 1 < w2.heap.size := HL.out.bb.lt
  have d0 : w2.cell? ⟨w.heap.size + 1 + 1, 0, none⟩ = some (.slice D ds.length dcap) := HL.out.db.cell 0
  have dl : w.heap.size + 1 + 1 < w2.heap.size := HL.out.db.lt
  have r0 : w2.cell? ⟨w.heap.size + 1 + 1 + 1, 0, none⟩ = some (.slice none 0 0) := HR.out.cell 0
  have rl : w.heap.size + 1 + 1 + 1 < w2.heap.size := HR.out.lt
  have rz : w2.frozen? ⟨w.heap.size + 1 + 1 + 1, 0, none⟩ = false := HR.out.frozen 0
  have r9 : (w2.setCell ⟨w.heap.size + 1 + 1 + 1, 0, none⟩ (.slice none 0 0)).cell? ⟨w.heap.size + 1 + 1 + 1, 0, none⟩ = some (.slice none 0 0) := (HR.out.set_ 0 _).cell 0
  have R9 := hid r9
  clear r9
  go_wp2_with fail
  exact bodyPost_ret (v := .tuple #[.agg #[.slice none 0 0], .int .i64 1]) (by simp [results, Tryz.results24, go_sem, R9.out]) rfl ⟨rfl, (HL.out.below.setCell (by simp; omega) _)⟩
end Go.Proofs.YtcigjmlileckhaaGreatDoor
