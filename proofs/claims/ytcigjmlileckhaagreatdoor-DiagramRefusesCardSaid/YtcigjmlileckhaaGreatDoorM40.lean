/- Two diagrams and a domain in boxes; And where it refuses. The walk of DiagramRefuses (printed by mkW70.py). -/
import Derived.Test.YtcigjmlileckhaaGreatDoorM15
import Derived.Test.YtcigjmlileckhaaGreatDoorM38
import Derived.Test.YtcigjmlileckhaaGreatDoorM39
import Derived.Test.YtcigjmlileckhaaGreatDoorM35

/- Two diagrams and a domain in boxes; And where it refuses. -/
namespace Go.Proofs.YtcigjmlileckhaaGreatDoor
open Go.RowKit

/-- The boxes of two diagrams and a domain. -/
structure Dw (w0 w : World) (va vb vd : Value) (a b : List NodeD) (ds : List FactD) (Z : Zone) : Prop where
  ab : Blk w w0.heap.size 34 #[va]
  bb : Blk w (w0.heap.size + 1) 34 #[vb]
  db : Blk w (w0.heap.size + 1 + 1) 27 #[vd]
  na : Nodes Z w va a
  nb : Nodes Z w vb b
  fs : Facts Z w vd ds
  below : Below w0.heap.size w0 w
  tab : TabB w.heap.size w
  zone : ∀ b, Z b → b < w.heap.size
theorem Dw.on {w0 w w' : World} {va vb vd : Value} {a b : List NodeD} {ds : List FactD} {Z : Zone} (h : Dw w0 w va vb vd a b ds Z) (hb : Below w.heap.size w w') : Dw w0 w' va vb vd a b ds Z :=
  ⟨h.ab.below hb h.ab.lt, h.bb.below hb h.bb.lt, h.db.below hb h.db.lt, h.na.keep (.of_below hb), h.nb.keep (.of_below hb), h.fs.keep (.of_below hb), h.below.trans (hb.mono h.below.size), (h.tab.on hb).mono hb.size, fun b hz => Nat.lt_of_lt_of_le (h.zone b hz) hb.size⟩
theorem Dw.start {Z : Zone} {w : World} {va vb vd : Value} {a b : List NodeD} {ds : List FactD} (ha : Nodes Z w va a) (hb : Nodes Z w vb b) (hd : Facts Z w vd ds) (hz : ∀ b, Z b → b < w.heap.size) (htab : TabB w.heap.size w) :
    Dw w (((w.alloc (.cells #[va] 34)).alloc (.cells #[vb] 34)).alloc (.cells #[vd] 27)) va vb vd a b ds Z := by
  have hb3 := ((below1 w (.cells #[va] 34)).alloc (by simp) (.cells #[vb] 34)).alloc (by simp; omega) (.cells #[vd] 27)
  exact ⟨((Blk.new w _ _).alloc _).alloc _, (Blk.new' (w.alloc (.cells #[va] 34)) _ _ (by simp)).alloc _, Blk.new' ((w.alloc (.cells #[va] 34)).alloc (.cells #[vb] 34)) _ _ (by simp), ha.keep (.of_below hb3), hb.keep (.of_below hb3), hd.keep (.of_below hb3), hb3, (htab.on hb3).mono hb3.size, fun b h => Nat.lt_of_lt_of_le (hz b h) hb3.size⟩

set_option maxRecDepth 100000 in
set_option maxHeartbeats 8000000 in
theorem and_refuses (Z : Zone) (va vb vd : Value) (a b : List NodeD) (ds : List FactD) (w : World) (ha : Nodes Z w va a) (hb : Nodes Z w vb b) (hd : Facts Z w vd ds) (hz : ∀ b, Z b → b < w.heap.size) (htab : TabB w.heap.size w) (hv : validS ds a = false ∨ validS ds b = false) :
    Calls Tryz.prog 24 #[.agg #[va], .agg #[vb], .agg #[vd]] w fun e w' => e = .returned (.tuple #[.agg #[.slice none 0 0], .int .i64 1]) ∧ Below w.heap.size w w' := by
  obtain ⟨AA, acap, rfl, -, -, -⟩ := ha.open_
  obtain ⟨AB, bcap, rfl, -, -, -⟩ := hb.open_
  obtain ⟨D, dcap, rfl, -, -, -⟩ := hd.open_
  have HL := hid (Dw.start ha hb hd hz htab)
  clear ha hb hd hz htab
  go_enter Tryz.func24, Tryz.ntmps24
  have HR := hid (Blk.new' (((w.alloc (.cells #[.slice AA a.length acap] 34)).alloc (.cells #[.slice AB b.length bcap] 34)).alloc (.cells #[.slice D ds.length dcap] 27)) 34 #[.slice none 0 0] (n := w.heap.size + 1 + 1 + 1) (by simp))
  replace HL := hid (HL.out.on ((below1 _ (.cells #[.slice none 0 0] 34)).mono (Nat.le_refl _)))
  go_upto_region 1 with fail
  generalize (((w.alloc (.cells #[.slice AA a.length acap] 34)).alloc (.cells #[.slice AB b.length bcap] 34)).alloc (.cells #[.slice D ds.length dcap] 27)).alloc (.cells #[.slice none 0 0] 34) = w1 at *
  have a0 : w1.cell? ⟨w.heap.size, 0, none⟩ = some (.slice AA a.length acap) := HL.out.ab.cell 0
  have al : w.heap.size < w1.heap.size := HL.out.ab.lt
  have b0 : w1.cell? ⟨w.heap.size + 1, 0, none⟩ = some (.slice AB b.length bcap) := HL.out.bb.cell 0
  have bl : w.heap.size + 1 < w1.heap.size := HL.out.bb.lt
  have d0 : w1.cell? ⟨w.heap.size + 1 + 1, 0, none⟩ = some (.slice D ds.length dcap) := HL.out.db.cell 0
  have dl : w.heap.size + 1 + 1 < w1.heap.size := HL.out.db.lt
  have r0 : w1.cell? ⟨w.heap.size + 1 + 1 + 1, 0, none⟩ = some (.slice none 0 0) := HR.out.cell 0
  have rl : w.heap.size + 1 + 1 + 1 < w1.heap.size := HR.out.lt
  by_cases hva : validS ds a = true
  · have HVA := hid hva
    have HVB := hid (show validS ds b = false from by rcases hv with h | h; · rw [hva] at h; cases h
                                                      · exact h)
    clear hva hv
    have HC := hid (dvalid_any Z (.slice AA a.length acap) (.slice D ds.length dcap) a ds _ HL.out.na HL.out.fs HL.out.tab)
    rw [HVA.out] at HC
    go_wp2_with fail
    refine HC.out.mono ?_
    rintro e w2 ⟨rfl, hb⟩
    replace HL := hid (HL.out.on hb)
    replace HR := hid (HR.out.below hb HR.out.lt)
    clear hb HC a0 al b0 bl d0 dl r0 rl
    have a0 : w2.cell? ⟨w.heap.size, 0, none⟩ = some (.slice AA a.length acap) := HL.out.ab.cell 0
    have al : w.heap.size < w2.heap.size := HL.out.ab.lt
    have b0 : w2.cell? ⟨w.heap.size + 1, 0, none⟩ = some (.slice AB b.length bcap) := HL.out.bb.cell 0
    have bl : w.heap.size + 1 < w2.heap.size := HL.out.bb.lt
    have d0 : w2.cell? ⟨w.heap.size + 1 + 1, 0, none⟩ = some (.slice D ds.length dcap) := HL.out.db.cell 0
    have dl : w.heap.size + 1 + 1 < w2.heap.size := HL.out.db.lt
    have r0 : w2.cell? ⟨w.heap.size + 1 + 1 + 1, 0, none⟩ = some (.slice none 0 0) := HR.out.cell 0
    have rl : w.heap.size + 1 + 1 + 1 < w2.heap.size := HR.out.lt
    have rz : w2.frozen? ⟨w.heap.size + 1 + 1 + 1, 0, none⟩ = false := HR.out.frozen 0
    have HC := hid (dvalid_any Z (.slice AB b.length bcap) (.slice D ds.length dcap) b ds _ HL.out.nb HL.out.fs HL.out.tab)
    rw [HVB.out] at HC
    go_wp2_with fail
    refine HC.out.mono ?_
    rintro e w3 ⟨rfl, hb⟩
    replace HL := hid (HL.out.on hb)
    replace HR := hid (HR.out.below hb HR.out.lt)
    clear hb HC a0 al b0 bl d0 dl r0 rl rz
    have a0 : w3.cell? ⟨w.heap.size, 0, none⟩ = some (.slice AA a.length acap) := HL.out.ab.cell 0
    have al : w.heap.size < w3.heap.size := HL.out.ab.lt
    have b0 : w3.cell? ⟨w.heap.size + 1, 0, none⟩ = some (.slice AB b.length bcap) := HL.out.bb.cell 0
    have bl : w.heap.size + 1 < w3.heap.size := HL.out.bb.lt
    have d0 : w3.cell? ⟨w.heap.size + 1 + 1, 0, none⟩ = some (.slice D ds.length dcap) := HL.out.db.cell 0
    have dl : w.heap.size + 1 + 1 < w3.heap.size := HL.out.db.lt
    have r0 : w3.cell? ⟨w.heap.size + 1 + 1 + 1, 0, none⟩ = some (.slice none 0 0) := HR.out.cell 0
    have rl : w.heap.size + 1 + 1 + 1 < w3.heap.size := HR.out.lt
    have rz : w3.frozen? ⟨w.heap.size + 1 + 1 + 1, 0, none⟩ = false := HR.out.frozen 0
    have r9 : (w3.setCell ⟨w.heap.size + 1 + 1 + 1, 0, none⟩ (.slice none 0 0)).cell? ⟨w.heap.size + 1 + 1 + 1, 0, none⟩ = some (.slice none 0 0) := (HR.out.set_ 0 _).cell 0
    have R9 := hid r9
    clear r9
    go_wp2_with fail
    exact bodyPost_ret (v := .tuple #[.agg #[.slice none 0 0], .int .i64 1]) (by simp [results, Tryz.results24, go_sem, R9.out]) rfl ⟨rfl, (HL.out.below.setCell (by simp; omega) _)⟩

  · have HVA := hid (show validS ds a = false from by simpa using hva)
    clear hva hv
    have HC := hid (dvalid_any Z (.slice AA a.length acap) (.slice D ds.length dcap) a ds _ HL.out.na HL.out.fs HL.out.tab)
    rw [HVA.out] at HC
    go_wp2_with fail
    refine HC.out.mono ?_
    rintro e w2 ⟨rfl, hb⟩
    replace HL := hid (HL.out.on hb)
    replace HR := hid (HR.out.below hb HR.out.lt)
    clear hb HC a0 al b0 bl d0 dl r0 rl
    have a0 : w2.cell? ⟨w.heap.size, 0, none⟩ = some (.slice AA a.length acap) := HL.out.ab.cell 0
    have al : w.heap.size < w2.heap.size := HL.out.ab.lt
    have b0 : w2.cell? ⟨w.heap.size + 1, 0, none⟩ = some (.slice AB b.length bcap) := HL.out.bb.cell 0
    have bl : w.heap.size + 1 < w2.heap.size := HL.out.bb.lt
    have d0 : w2.cell? ⟨w.heap.size + 1 + 1, 0, none⟩ = some (.slice D ds.length dcap) := HL.out.db.cell 0
    have dl : w.heap.size + 1 + 1 < w2.heap.size := HL.out.db.lt
    have r0 : w2.cell? ⟨w.heap.size + 1 + 1 + 1, 0, none⟩ = some (.slice none 0 0) := HR.out.cell 0
    have rl : w.heap.size + 1 + 1 + 1 < w2.heap.size := HR.out.lt
    have rz : w2.frozen? ⟨w.heap.size + 1 + 1 + 1, 0, none⟩ = false := HR.out.frozen 0
    have r9 : (w2.setCell ⟨w.heap.size + 1 + 1 + 1, 0, none⟩ (.slice none 0 0)).cell? ⟨w.heap.size + 1 + 1 + 1, 0, none⟩ = some (.slice none 0 0) := (HR.out.set_ 0 _).cell 0
    have R9 := hid r9
    clear r9
    go_wp2_with fail
    exact bodyPost_ret (v := .tuple #[.agg #[.slice none 0 0], .int .i64 1]) (by simp [results, Tryz.results24, go_sem, R9.out]) rfl ⟨rfl, (HL.out.below.setCell (by simp; omega) _)⟩

end Go.Proofs.YtcigjmlileckhaaGreatDoor

/- The walk of DiagramRefuses (printed by mkW70.py). -/
namespace Go.Proofs.YtcigjmlileckhaaGreatDoor
open Go.RowKit

theorem nodes_no (w : World) : Nodes (fun _ => True) (w.alloc (.cells #[.bool false, .int .i64 0, .slice none 0 0, .slice none 0 0] 55)) (.slice (some ⟨w.heap.size, 0, none⟩) 1 1) [noNode] := by
  have hB := Blk.new w 55 #[.bool false, .int .i64 0, .slice none 0 0, .slice none 0 0]
  refine ⟨_, 1, rfl, Nat.le_refl _, by omega, by simp, w.heap.size, 0, [.bool false, .int .i64 0, .slice none 0 0, .slice none 0 0], rfl, trivial, fun j u hu => ?_, ⟨_, _, rfl, by constructor <;> simp [noNode], Ints.nil _ _, Ints.nil _ _⟩, trivial⟩
  rw [Nat.zero_add, hB.cell j]
  simpa using hu
theorem ref_none {ds : List FactD} {a : List NodeD} (hv : validS ds a = true) (h : leastS ds a = none) : decide (a = [noNode]) = true := by
  have V := validS_iff.1 hv
  exact decide_eq_true (dead_root V (leastS_none V h).2)
theorem ref_some {ds : List FactD} {a : List NodeD} {p : List Int} (h : leastS ds a = some p) : decide (a = [noNode]) = false ∧ fits ds p = true ∧ holdsD a p a.length 0 = true := by
  obtain ⟨V, F, T, -⟩ := leastS_some h
  refine ⟨decide_eq_false fun e => ?_, fits_of V.dom F, ?_⟩
  · subst e
    rw [V.good.S_leaf (by rfl)] at T
    exact absurd T (by decide)
  · rw [holdsD_all V.good F.1 V.rng, T]
theorem ref_bad {ds : List FactD} {a : List NodeD} (hv : validS ds a = false) : leastS ds a = none := by
  unfold leastS; rw [hv]; simp

set_option maxRecDepth 100000 in
set_option maxHeartbeats 16000000 in
theorem refuses_any (Z : Zone) (va vb vd : Value) (a b : List NodeD) (ds : List FactD) (w : World) (ha : Nodes Z w va a) (hb : Nodes Z w vb b) (hd : Facts Z w vd ds) (hz : ∀ b, Z b → b < w.heap.size) (htab : TabB w.heap.size w) :
    Calls Tryz.prog 7 #[.agg #[va], .agg #[vb], .agg #[vd]] w fun e w' => e = .returned (.bool true) ∧ Below w.heap.size w w' := by
  obtain ⟨AA, acap, rfl, -, -, -⟩ := ha.open_
  obtain ⟨AB, bcap, rfl, -, -, -⟩ := hb.open_
  obtain ⟨D, dcap, rfl, -, -, -⟩ := hd.open_
  have HL := hid (Dw.start ha hb hd hz htab)
  clear ha hb hd hz htab
  go_enter Tryz.func7, Tryz.ntmps7
  go_wp2_with fail
  refine (head_any _ HL.out.tab).mono ?_
  rintro e w1 ⟨rfl, hb⟩
  replace HL := hid (HL.out.on hb)
  clear hb
  have a0 : w1.cell? ⟨w.heap.size, 0, none⟩ = some (.slice AA a.length acap) := HL.out.ab.cell 0
  have al : w.heap.size < w1.heap.size := HL.out.ab.lt
  have b0 : w1.cell? ⟨w.heap.size + 1, 0, none⟩ = some (.slice AB b.length bcap) := HL.out.bb.cell 0
  have bl : w.heap.size + 1 < w1.heap.size := HL.out.bb.lt
  have d0 : w1.cell? ⟨w.heap.size + 1 + 1, 0, none⟩ = some (.slice D ds.length dcap) := HL.out.db.cell 0
  have dl : w.heap.size + 1 + 1 < w1.heap.size := HL.out.db.lt
  by_cases h : fewS a 40 = true
  · have HFA := hid h
    clear h
    have HC := hid (refFew_any Z (.slice AA a.length acap) a 40 _ HL.out.na)
    rw [HFA.out] at HC
    go_wp2_with fail
    refine HC.out.mono ?_
    rintro e w2 ⟨rfl, hb⟩
    replace HL := hid (HL.out.on hb)
    clear hb HC a0 al b0 bl d0 dl
    have a0 : w2.cell? ⟨w.heap.size, 0, none⟩ = some (.slice AA a.length acap) := HL.out.ab.cell 0
    have al : w.heap.size < w2.heap.size := HL.out.ab.lt
    have b0 : w2.cell? ⟨w.heap.size + 1, 0, none⟩ = some (.slice AB b.length bcap) := HL.out.bb.cell 0
    have bl : w.heap.size + 1 < w2.heap.size := HL.out.bb.lt
    have d0 : w2.cell? ⟨w.heap.size + 1 + 1, 0, none⟩ = some (.slice D ds.length dcap) := HL.out.db.cell 0
    have dl : w.heap.size + 1 + 1 < w2.heap.size := HL.out.db.lt
    by_cases h : fewS b 40 = true
    · have HFB := hid h
      clear h
      have HC := hid (refFew_any Z (.slice AB b.length bcap) b 40 _ HL.out.nb)
      rw [HFB.out] at HC
      go_wp2_with fail
      refine HC.out.mono ?_
      rintro e w3 ⟨rfl, hb⟩
      replace HL := hid (HL.out.on hb)
      clear hb HC a0 al b0 bl d0 dl
      have a0 : w3.cell? ⟨w.heap.size, 0, none⟩ = some (.slice AA a.length acap) := HL.out.ab.cell 0
      have al : w.heap.size < w3.heap.size := HL.out.ab.lt
      have b0 : w3.cell? ⟨w.heap.size + 1, 0, none⟩ = some (.slice AB b.length bcap) := HL.out.bb.cell 0
      have bl : w.heap.size + 1 < w3.heap.size := HL.out.bb.lt
      have d0 : w3.cell? ⟨w.heap.size + 1 + 1, 0, none⟩ = some (.slice D ds.length dcap) := HL.out.db.cell 0
      have dl : w.heap.size + 1 + 1 < w3.heap.size := HL.out.db.lt
      by_cases h : 70 < ds.length
      · have e2 : decide ((70 : Int) < (ds.length : Int)) = true := decide_eq_true (by omega)
        clear h
        go_wp2_with fail
        exact bodyPost_ret (v := .bool true) (by simp [results, Tryz.results7, go_sem]) rfl ⟨rfl, HL.out.below⟩
      · have e2 : decide ((70 : Int) < (ds.length : Int)) = false := decide_eq_false (by omega)
        clear h
        go_upto_region 4 with fail
        clear e2
        have HDL := dleast_any Z (.slice AA a.length acap) (.slice D ds.length dcap) a ds w3 HL.out.na HL.out.fs HL.out.tab
        generalize hr : leastS ds a = r at HDL
        have HR := hid hr
        clear hr
        go_wp2_with fail
        by_cases h : validS ds a = true
        · have HVA := hid h
          clear h
          cases r with
          | none =>
            refine HDL.mono fun e w5 h => ?_
            clear HDL
            obtain ⟨PA, pcap, rfl, hb⟩ := least_no h
            replace HL := hid (HL.out.on hb)
            clear hb h a0 al b0 bl d0 dl
            have a0 : w5.cell? ⟨w.heap.size, 0, none⟩ = some (.slice AA a.length acap) := HL.out.ab.cell 0
            have al : w.heap.size < w5.heap.size := HL.out.ab.lt
            have b0 : w5.cell? ⟨w.heap.size + 1, 0, none⟩ = some (.slice AB b.length bcap) := HL.out.bb.cell 0
            have bl : w.heap.size + 1 < w5.heap.size := HL.out.bb.lt
            have d0 : w5.cell? ⟨w.heap.size + 1 + 1, 0, none⟩ = some (.slice D ds.length dcap) := HL.out.db.cell 0
            have dl : w.heap.size + 1 + 1 < w5.heap.size := HL.out.db.lt
            have HC := hid (dvalid_any Z (.slice AA a.length acap) (.slice D ds.length dcap) a ds _ HL.out.na HL.out.fs HL.out.tab)
            rw [HVA.out] at HC
            go_wp2_with fail
            refine HC.out.mono ?_
            rintro e w6 ⟨rfl, hb⟩
            replace HL := hid (HL.out.on hb)
            clear hb HC a0 al b0 bl d0 dl
            have a0 : w6.cell? ⟨w.heap.size, 0, none⟩ = some (.slice AA a.length acap) := HL.out.ab.cell 0
            have al : w.heap.size < w6.heap.size := HL.out.ab.lt
            have b0 : w6.cell? ⟨w.heap.size + 1, 0, none⟩ = some (.slice AB b.length bcap) := HL.out.bb.cell 0
            have bl : w.heap.size + 1 < w6.heap.size := HL.out.bb.lt
            have d0 : w6.cell? ⟨w.heap.size + 1 + 1, 0, none⟩ = some (.slice D ds.length dcap) := HL.out.db.cell 0
            have dl : w.heap.size + 1 + 1 < w6.heap.size := HL.out.db.lt
            replace HL := hid (HL.out.on ((below1 w6 (.cells #[.bool false, .int .i64 0, .slice none 0 0, .slice none 0 0] 55))))
            have HC := hid (dsame_any Z (fun _ => True) (.slice AA a.length acap) (.slice (some ⟨w6.heap.size, 0, none⟩) 1 1) a [noNode] (w6.alloc (.cells #[.bool false, .int .i64 0, .slice none 0 0, .slice none 0 0] 55)) HL.out.na (nodes_no w6))
            rw [ref_none HVA.out HR.out] at HC
            go_wp2_with fail
            refine HC.out.mono ?_
            rintro e w7 ⟨rfl, hb⟩
            replace HL := hid (HL.out.on hb)
            clear hb HC a0 al b0 bl d0 dl
            have a0 : w7.cell? ⟨w.heap.size, 0, none⟩ = some (.slice AA a.length acap) := HL.out.ab.cell 0
            have al : w.heap.size < w7.heap.size := HL.out.ab.lt
            have b0 : w7.cell? ⟨w.heap.size + 1, 0, none⟩ = some (.slice AB b.length bcap) := HL.out.bb.cell 0
            have bl : w.heap.size + 1 < w7.heap.size := HL.out.bb.lt
            have d0 : w7.cell? ⟨w.heap.size + 1 + 1, 0, none⟩ = some (.slice D ds.length dcap) := HL.out.db.cell 0
            have dl : w.heap.size + 1 + 1 < w7.heap.size := HL.out.db.lt
            go_wp2_with fail
            exact bodyPost_ret (v := .bool true) (by simp [results, Tryz.results7, go_sem]) rfl ⟨rfl, HL.out.below⟩
          | some p =>
            refine HDL.mono fun e w5 h => ?_
            clear HDL
            obtain ⟨PA, pcap, rfl, hp, hb⟩ := least_yes h
            replace HL := hid (HL.out.on hb)
            have HP := hid hp
            clear hp
            clear hb h a0 al b0 bl d0 dl
            have a0 : w5.cell? ⟨w.heap.size, 0, none⟩ = some (.slice AA a.length acap) := HL.out.ab.cell 0
            have al : w.heap.size < w5.heap.size := HL.out.ab.lt
            have b0 : w5.cell? ⟨w.heap.size + 1, 0, none⟩ = some (.slice AB b.length bcap) := HL.out.bb.cell 0
            have bl : w.heap.size + 1 < w5.heap.size := HL.out.bb.lt
            have d0 : w5.cell? ⟨w.heap.size + 1 + 1, 0, none⟩ = some (.slice D ds.length dcap) := HL.out.db.cell 0
            have dl : w.heap.size + 1 + 1 < w5.heap.size := HL.out.db.lt
            have HC := hid (dvalid_any Z (.slice AA a.length acap) (.slice D ds.length dcap) a ds _ HL.out.na HL.out.fs HL.out.tab)
            rw [HVA.out] at HC
            go_wp2_with fail
            refine HC.out.mono ?_
            rintro e w6 ⟨rfl, hb⟩
            replace HL := hid (HL.out.on hb)
            replace HP := hid (HP.out.keep (Keeps.of_below hb))
            clear hb HC a0 al b0 bl d0 dl
            have a0 : w6.cell? ⟨w.heap.size, 0, none⟩ = some (.slice AA a.length acap) := HL.out.ab.cell 0
            have al : w.heap.size < w6.heap.size := HL.out.ab.lt
            have b0 : w6.cell? ⟨w.heap.size + 1, 0, none⟩ = some (.slice AB b.length bcap) := HL.out.bb.cell 0
            have bl : w.heap.size + 1 < w6.heap.size := HL.out.bb.lt
            have d0 : w6.cell? ⟨w.heap.size + 1 + 1, 0, none⟩ = some (.slice D ds.length dcap) := HL.out.db.cell 0
            have dl : w.heap.size + 1 + 1 < w6.heap.size := HL.out.db.lt
            replace HL := hid (HL.out.on ((below1 w6 (.cells #[.bool false, .int .i64 0, .slice none 0 0, .slice none 0 0] 55))))
            replace HP := hid (HP.out.keep ((Keeps.refl _ _).alloc (.cells #[.bool false, .int .i64 0, .slice none 0 0, .slice none 0 0] 55)))
            obtain ⟨HS1, HS2, HS3⟩ : Hid (decide (a = [noNode]) = false) ∧ Hid (fits ds p = true) ∧ Hid (holdsD a p a.length 0 = true) := ⟨hid (ref_some HR.out).1, hid (ref_some HR.out).2.1, hid (ref_some HR.out).2.2⟩
            have HC := hid (dsame_any Z (fun _ => True) (.slice AA a.length acap) (.slice (some ⟨w6.heap.size, 0, none⟩) 1 1) a [noNode] (w6.alloc (.cells #[.bool false, .int .i64 0, .slice none 0 0, .slice none 0 0] 55)) HL.out.na (nodes_no w6))
            rw [HS1.out] at HC
            go_wp2_with fail
            refine HC.out.mono ?_
            rintro e w7 ⟨rfl, hb⟩
            replace HL := hid (HL.out.on hb)
            replace HP := hid (HP.out.keep (Keeps.of_below hb))
            clear hb HC a0 al b0 bl d0 dl
            have a0 : w7.cell? ⟨w.heap.size, 0, none⟩ = some (.slice AA a.length acap) := HL.out.ab.cell 0
            have al : w.heap.size < w7.heap.size := HL.out.ab.lt
            have b0 : w7.cell? ⟨w.heap.size + 1, 0, none⟩ = some (.slice AB b.length bcap) := HL.out.bb.cell 0
            have bl : w.heap.size + 1 < w7.heap.size := HL.out.bb.lt
            have d0 : w7.cell? ⟨w.heap.size + 1 + 1, 0, none⟩ = some (.slice D ds.length dcap) := HL.out.db.cell 0
            have dl : w.heap.size + 1 + 1 < w7.heap.size := HL.out.db.lt
            have HC := hid (factFits_any (fun _ => True) (.slice D ds.length dcap) (.slice PA p.length pcap) ds p _ (HL.out.fs.mono fun _ _ => trivial) HP.out)
            rw [HS2.out] at HC
            go_wp2_with fail
            refine HC.out.mono ?_
            rintro e w8 ⟨rfl, hb⟩
            replace HL := hid (HL.out.on hb)
            replace HP := hid (HP.out.keep (Keeps.of_below hb))
            clear hb HC a0 al b0 bl d0 dl
            have a0 : w8.cell? ⟨w.heap.size, 0, none⟩ = some (.slice AA a.length acap) := HL.out.ab.cell 0
            have al : w.heap.size < w8.heap.size := HL.out.ab.lt
            have b0 : w8.cell? ⟨w.heap.size + 1, 0, none⟩ = some (.slice AB b.length bcap) := HL.out.bb.cell 0
            have bl : w.heap.size + 1 < w8.heap.size := HL.out.bb.lt
            have d0 : w8.cell? ⟨w.heap.size + 1 + 1, 0, none⟩ = some (.slice D ds.length dcap) := HL.out.db.cell 0
            have dl : w.heap.size + 1 + 1 < w8.heap.size := HL.out.db.lt
            have HC := hid (dholds_any (fun _ => True) (.slice AA a.length acap) (.slice PA p.length pcap) a p _ (HL.out.na.mono fun _ _ => trivial) HP.out)
            rw [HS3.out] at HC
            go_wp2_with fail
            refine HC.out.mono ?_
            rintro e w9 ⟨rfl, hb⟩
            replace HL := hid (HL.out.on hb)
            clear hb HC a0 al b0 bl d0 dl
            have a0 : w9.cell? ⟨w.heap.size, 0, none⟩ = some (.slice AA a.length acap) := HL.out.ab.cell 0
            have al : w.heap.size < w9.heap.size := HL.out.ab.lt
            have b0 : w9.cell? ⟨w.heap.size + 1, 0, none⟩ = some (.slice AB b.length bcap) := HL.out.bb.cell 0
            have bl : w.heap.size + 1 < w9.heap.size := HL.out.bb.lt
            have d0 : w9.cell? ⟨w.heap.size + 1 + 1, 0, none⟩ = some (.slice D ds.length dcap) := HL.out.db.cell 0
            have dl : w.heap.size + 1 + 1 < w9.heap.size := HL.out.db.lt
            go_wp2_with fail
            exact bodyPost_ret (v := .bool true) (by simp [results, Tryz.results7, go_sem]) rfl ⟨rfl, HL.out.below⟩
        · have HVA := hid (show validS ds a = false from by simpa using h)
          clear h
          have HR2 := hid (HR.out.symm.trans (ref_bad HVA.out))
          obtain rfl := HR2.out
          clear HR2
          refine HDL.mono fun e w5 h => ?_
          clear HDL
          obtain ⟨PA, pcap, rfl, hb⟩ := least_no h
          replace HL := hid (HL.out.on hb)
          clear hb h a0 al b0 bl d0 dl
          have a0 : w5.cell? ⟨w.heap.size, 0, none⟩ = some (.slice AA a.length acap) := HL.out.ab.cell 0
          have al : w.heap.size < w5.heap.size := HL.out.ab.lt
          have b0 : w5.cell? ⟨w.heap.size + 1, 0, none⟩ = some (.slice AB b.length bcap) := HL.out.bb.cell 0
          have bl : w.heap.size + 1 < w5.heap.size := HL.out.bb.lt
          have d0 : w5.cell? ⟨w.heap.size + 1 + 1, 0, none⟩ = some (.slice D ds.length dcap) := HL.out.db.cell 0
          have dl : w.heap.size + 1 + 1 < w5.heap.size := HL.out.db.lt
          have HC := hid (dvalid_any Z (.slice AA a.length acap) (.slice D ds.length dcap) a ds _ HL.out.na HL.out.fs HL.out.tab)
          rw [HVA.out] at HC
          go_wp2_with fail
          refine HC.out.mono ?_
          rintro e w6 ⟨rfl, hb⟩
          replace HL := hid (HL.out.on hb)
          clear hb HC a0 al b0 bl d0 dl
          have a0 : w6.cell? ⟨w.heap.size, 0, none⟩ = some (.slice AA a.length acap) := HL.out.ab.cell 0
          have al : w.heap.size < w6.heap.size := HL.out.ab.lt
          have b0 : w6.cell? ⟨w.heap.size + 1, 0, none⟩ = some (.slice AB b.length bcap) := HL.out.bb.cell 0
          have bl : w.heap.size + 1 < w6.heap.size := HL.out.bb.lt
          have d0 : w6.cell? ⟨w.heap.size + 1 + 1, 0, none⟩ = some (.slice D ds.length dcap) := HL.out.db.cell 0
          have dl : w.heap.size + 1 + 1 < w6.heap.size := HL.out.db.lt
          have HC := hid (and_refuses Z (.slice AA a.length acap) (.slice AB b.length bcap) (.slice D ds.length dcap) a b ds _ HL.out.na HL.out.nb HL.out.fs HL.out.zone HL.out.tab (Or.inl HVA.out))
          go_wp2_with fail
          refine HC.out.mono ?_
          rintro e w7 ⟨rfl, hb⟩
          replace HL := hid (HL.out.on hb)
          clear hb HC a0 al b0 bl d0 dl
          have HX1 := hid (Blk.new w7 34 #[.slice none 0 0])
          replace HL := hid (HL.out.on (below1 w7 (.cells #[.slice none 0 0] 34)))
          go_upto_region 8 with fail
          generalize w7.alloc (.cells #[.slice none 0 0] 34) = w8 at *
          generalize w7.heap.size = xb at *
          have a0 : w8.cell? ⟨w.heap.size, 0, none⟩ = some (.slice AA a.length acap) := HL.out.ab.cell 0
          have al : w.heap.size < w8.heap.size := HL.out.ab.lt
          have b0 : w8.cell? ⟨w.heap.size + 1, 0, none⟩ = some (.slice AB b.length bcap) := HL.out.bb.cell 0
          have bl : w.heap.size + 1 < w8.heap.size := HL.out.bb.lt
          have d0 : w8.cell? ⟨w.heap.size + 1 + 1, 0, none⟩ = some (.slice D ds.length dcap) := HL.out.db.cell 0
          have dl : w.heap.size + 1 + 1 < w8.heap.size := HL.out.db.lt
          have HC := hid (and_refuses Z (.slice AB b.length bcap) (.slice AA a.length acap) (.slice D ds.length dcap) b a ds _ HL.out.nb HL.out.na HL.out.fs HL.out.zone HL.out.tab (Or.inr HVA.out))
          go_wp2_with fail
          refine HC.out.mono ?_
          rintro e w9 ⟨rfl, hb⟩
          replace HL := hid (HL.out.on hb)
          replace HX1 := hid (HX1.out.below hb HX1.out.lt)
          clear hb HC a0 al b0 bl d0 dl
          have HX2 := hid (Blk.new w9 34 #[.slice none 0 0])
          replace HX1 := hid (HX1.out.alloc (.cells #[.slice none 0 0] 34))
          replace HL := hid (HL.out.on (below1 w9 (.cells #[.slice none 0 0] 34)))
          go_upto_region 9 with fail
          generalize w9.alloc (.cells #[.slice none 0 0] 34) = w10 at *
          generalize w9.heap.size = yb at *
          have x1 : w10.cell? ⟨xb, 0, none⟩ = some (.slice none 0 0) := HX1.out.cell 0
          have x1l : xb < w10.heap.size := HX1.out.lt
          have y1 : w10.cell? ⟨yb, 0, none⟩ = some (.slice none 0 0) := HX2.out.cell 0
          have y1l : yb < w10.heap.size := HX2.out.lt
          go_wp2_with fail
          exact bodyPost_ret (v := .bool true) (by simp [results, Tryz.results7, go_sem]) rfl ⟨rfl, HL.out.below⟩
    · have HFB := hid (show fewS b 40 = false from by simpa using h)
      clear h
      have HC := hid (refFew_any Z (.slice AB b.length bcap) b 40 _ HL.out.nb)
      rw [HFB.out] at HC
      go_wp2_with fail
      refine HC.out.mono ?_
      rintro e w3 ⟨rfl, hb⟩
      replace HL := hid (HL.out.on hb)
      clear hb HC a0 al b0 bl d0 dl
      have a0 : w3.cell? ⟨w.heap.size, 0, none⟩ = some (.slice AA a.length acap) := HL.out.ab.cell 0
      have al : w.heap.size < w3.heap.size := HL.out.ab.lt
      have b0 : w3.cell? ⟨w.heap.size + 1, 0, none⟩ = some (.slice AB b.length bcap) := HL.out.bb.cell 0
      have bl : w.heap.size + 1 < w3.heap.size := HL.out.bb.lt
      have d0 : w3.cell? ⟨w.heap.size + 1 + 1, 0, none⟩ = some (.slice D ds.length dcap) := HL.out.db.cell 0
      have dl : w.heap.size + 1 + 1 < w3.heap.size := HL.out.db.lt
      go_wp2_with fail
      exact bodyPost_ret (v := .bool true) (by simp [results, Tryz.results7, go_sem]) rfl ⟨rfl, HL.out.below⟩
  · have HFA := hid (show fewS a 40 = false from by simpa using h)
    clear h
    have HC := hid (refFew_any Z (.slice AA a.length acap) a 40 _ HL.out.na)
    rw [HFA.out] at HC
    go_wp2_with fail
    refine HC.out.mono ?_
    rintro e w2 ⟨rfl, hb⟩
    replace HL := hid (HL.out.on hb)
    clear hb HC a0 al b0 bl d0 dl
    have a0 : w2.cell? ⟨w.heap.size, 0, none⟩ = some (.slice AA a.length acap) := HL.out.ab.cell 0
    have al : w.heap.size < w2.heap.size := HL.out.ab.lt
    have b0 : w2.cell? ⟨w.heap.size + 1, 0, none⟩ = some (.slice AB b.length bcap) := HL.out.bb.cell 0
    have bl : w.heap.size + 1 < w2.heap.size := HL.out.bb.lt
    have d0 : w2.cell? ⟨w.heap.size + 1 + 1, 0, none⟩ = some (.slice D ds.length dcap) := HL.out.db.cell 0
    have dl : w.heap.size + 1 + 1 < w2.heap.size := HL.out.db.lt
    go_wp2_with fail
    exact bodyPost_ret (v := .bool true) (by simp [results, Tryz.results7, go_sem]) rfl ⟨rfl, HL.out.below⟩

end Go.Proofs.YtcigjmlileckhaaGreatDoor
