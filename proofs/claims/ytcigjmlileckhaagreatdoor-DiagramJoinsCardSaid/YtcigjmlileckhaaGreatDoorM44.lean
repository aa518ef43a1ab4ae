/- The walk of diagram.And (printed by mkW75.py). -/
import Derived.Test.YtcigjmlileckhaaGreatDoorM43
import Derived.Test.YtcigjmlileckhaaGreatDoorM40
/- The walk of diagram.And (printed by mkW75.py). -/
namespace Go.Proofs.YtcigjmlileckhaaGreatDoor
open Go.RowKit
def AV.of (n A B D : Nat) : AV := ⟨n + 1 + 1 + 1, A, B, D, n + 1, n + 1 + 1 + 1 + 1, n, n + 1 + 1⟩
def bDv (n : Nat) : Obj := .cells #[.map (some (n + 1 + 1))] 107
def bAv (n A B D : Nat) : Obj := .cells #[(AV.of n A B D).fn] 108
def andW (w : World) (A B D : Nat) : World := ((((w.alloc bMk).alloc (bMv w.heap.size)).alloc (.map #[] 0)).alloc (bDv w.heap.size)).alloc (bAv w.heap.size A B D)
theorem andW_size (w : World) (A B D : Nat) : (andW w A B D).heap.size = w.heap.size + 5 := by unfold andW; simp
theorem andW_below (w : World) (A B D : Nat) : Below w.heap.size w (andW w A B D) :=
 ((((below1 w _).alloc (by simp) _).alloc (by simp; omega) _).alloc (by simp; omega) _).alloc (by simp; omega) _
theorem andW_an {w : World} {A B D : Nat} {va vb vd : Value} (ha : One w A va) (hb : One w B vb) (hd : One w D vd) : AnW (AV.of w.heap.size A B D) va vb vd (andW w A B D) ⟨[], []⟩ (fun b => b = w.heap.size) (fun _ => False) := by
 have hal := ha.lt
 have hbl := hb.lt
 have hdl := hd.lt
 have hw := andW_below w A B D
 refine ⟨⟨_, (Blk.new' (((w.alloc bMk).alloc (bMv w.heap.size)).alloc (.map #[] 0)) 107 #[.map (some (w.heap.size + 1 + 1))] (n := w.heap.size + 1 + 1 + 1) (by simp)).alloc _⟩, ha.below hw hal, hb.below hw hbl, hd.below hw hdl,
  ⟨_, (((Blk.new' (w.alloc bMk) 64 #[.pointer (some ⟨w.heap.size, 0, none⟩)] (n := w.heap.size + 1) (by simp)).alloc _).alloc _).alloc _⟩,
  ⟨_, Blk.new' ((((w.alloc bMk).alloc (bMv w.heap.size)).alloc (.map #[] 0)).alloc (bDv w.heap.size)) _ #[(AV.of w.heap.size A B D).fn] (n := w.heap.size + 1 + 1 + 1 + 1) (by simp)⟩, ?_, ?_, ?_, ?_, ?_⟩
 ·exact (MkS.new w).below (w' := andW w A B D) ((((below1 (w.alloc bMk) _).alloc (by simp) _).alloc (by simp) _).alloc (by simp) _)
 ·have hm := ((MapIs.made ((w.alloc bMk).alloc (bMv w.heap.size)) encP).alloc (bDv w.heap.size)).alloc (bAv w.heap.size A B D)
  have e : ((w.alloc bMk).alloc (bMv w.heap.size)).heap.size = w.heap.size + 1 + 1 := by simp
  rw [e] at hm
  exact hm
 ·intro b hb
  refine ⟨fun e => ?_, ?_⟩
  ·subst e; rcases hb with hb | hb | hb | hb | hb | hb <;> (unfold AV.of at hb; simp only at hb; omega)
  ·show b ≠ w.heap.size + 1 + 1
   rcases hb with hb | hb | hb | hb | hb | hb <;> (unfold AV.of at hb; simp only at hb; omega)
 ·show ¬ (w.heap.size + 1 + 1 = w.heap.size); omega
 ·exact fun h => h
set_option maxRecDepth 100000 in
set_option maxHeartbeats 8000000 in
theorem and_any (Z : Zone) (va vb vd : Value) (a b : List NodeD) (ds : List FactD) (w : World) (ha : Nodes Z w va a) (hb : Nodes Z w vb b) (hd : Facts Z w vd ds) (hz : ∀ b, Z b → b < w.heap.size) (htab : TabB w.heap.size w) :
  Calls Tryz.prog 24 #[.agg #[va], .agg #[vb], .agg #[vd]] w (FromPost (fun _ => False) (andS ds a b) w) := by
 by_cases hv : validS ds a = true ∧ validS ds b = true
 ·obtain ⟨hva, hvb⟩ := hv
  have HU := hid (show andS ds a b = (if 4000 < (bothS ds a b (ds.length + 1) 0 0 ⟨[], []⟩).2.all.length then ([], 2) else fromS ds (bothS ds a b (ds.length + 1) 0 0 ⟨[], []⟩).2.all (bothS ds a b (ds.length + 1) 0 0 ⟨[], []⟩).1) from by unfold andS fromS; rw [if_pos ⟨hva, hvb⟩])
  have hia := validS_iff.1 hva
  have hib := validS_iff.1 hvb
  have HBS := hid (fun h => both_spec (lohi_of hia.dom) hia.good hib.good (closed_all hia.good hib.good) (ds.length + 1) 0 0 ⟨[], []⟩ (pairsA_mem.2 ⟨hia.rng, hib.rng⟩) (and_meas hia hib) AInv.new (Or.inr h))
  have HBW := hid (both_w hia.good hib.good (ds.length + 1) 0 0 ⟨[], []⟩ hia.rng hib.rng (and_meas hia hib) WStA.new)
  have HIA := hid hia
  have HIB := hid hib
  have HVA := hid hva
  have HVB := hid hvb
  have HZ := hid hz
  have HTAB := hid htab
  clear hva hvb hia hib
  obtain ⟨AA, acap, rfl, -, -, -⟩ := ha.open_
  obtain ⟨AB, bcap, rfl, -, -, -⟩ := hb.open_
  obtain ⟨D, dcap, rfl, -, -, -⟩ := hd.open_
  have HL := hid (Dw.start ha hb hd hz htab)
  have eg := Tryz.egAnd1
  have hmm := @run_makeMap Tryz.prog
  clear ha hb hd hz htab
  go_enter Tryz.func24, Tryz.ntmps24
  have HR := hid (Blk.new' (((w.alloc (.cells #[.slice AA a.length acap] 34)).alloc (.cells #[.slice AB b.length bcap] 34)).alloc (.cells #[.slice D ds.length dcap] 27)) 34 #[.slice none 0 0] (n := w.heap.size + 1 + 1 + 1) (by simp))
  replace HL := hid (HL.out.on ((below1 _ (.cells #[.slice none 0 0] 34)).mono (Nat.le_refl _)))
  go_upto_region 1 with fail
  generalize (((w.alloc (.cells #[.slice AA a.length acap] 34)).alloc (.cells #[.slice AB b.length bcap] 34)).alloc (.cells #[.slice D ds.length dcap] 27)).alloc (.cells #[.slice none 0 0] 34) = w1 at *
  have a0 : w1.cell? ⟨w.heap.size, 0, none⟩ = some (.slice AA a.length acap) := HL.out.ab.cell 0
  have al : w.heap.size < w1.heap.size := HL.out.ab.lt
  have b0 : w1.cell? ⟨w.heap.size + 1, 0, none⟩ = some (.slice AB b.length bcap) := HL.out.bb.cell 0
  have bl : w.heap.size + 1 < w1.heap.size := HL.out.bb.lt
  have d0 : w1.cell? ⟨w.heap.size + 1 + 1, 0, none⟩ = some (.slice D ds.length dcap) := HL.out.db.cell 0
  have dl : w.heap.size + 1 + 1 < w1.heap.size := HL.out.db.lt
  have HC := hid (dvalid_any Z (.slice AA a.length acap) (.slice D ds.length dcap) a ds _ HL.out.na HL.out.fs HL.out.tab)
  rw [HVA.out] at HC
  go_wp2_with fail
  refine HC.out.mono ?_
  rintro e w2 ⟨rfl, hb⟩
  replace HL := hid (HL.out.on hb)
  replace HR := hid (HR.out.below hb HR.out.lt)
  clear hb HC a0 al b0 bl d0 dl
  have a0 : w2.cell? ⟨w.heap.size, 0, none⟩ = some (.slice AA a.length acap) := HL.out.ab.cell 0
  have al : w.heap.size < w2.heap.size := HL.out.ab.lt
  have b0 : w2.cell? ⟨w.heap.size + 1, 0, none⟩ = some (.slice AB b.length bcap) := HL.out.bb.cell 0
  have bl : w.heap.size + 1 < w2.heap.size := HL.out.bb.lt
  have d0 : w2.cell? ⟨w.heap.size + 1 + 1, 0, none⟩ = some (.slice D ds.length dcap) := HL.out.db.cell 0
  have dl : w.heap.size + 1 + 1 < w2.heap.size := HL.out.db.lt
  have HC := hid (dvalid_any Z (.slice AB b.length bcap) (.slice D ds.length dcap) b ds _ HL.out.nb HL.out.fs HL.out.tab)
  rw [HVB.out] at HC
  go_wp2_with fail
  refine HC.out.mono ?_
  rintro e w3 ⟨rfl, hb⟩
  replace HL := hid (HL.out.on hb)
  replace HR := hid (HR.out.below hb HR.out.lt)
  clear hb HC a0 al b0 bl d0 dl
  go_wp2_with fail
  change Calls Tryz.prog _ _ (andW w3 w.heap.size (w.heap.size + 1) (w.heap.size + 1 + 1)) _
  have hsz9 := andW_size w3 w.heap.size (w.heap.size + 1) (w.heap.size + 1 + 1)
  have hb9 := andW_below w3 w.heap.size (w.heap.size + 1) (w.heap.size + 1 + 1)
  have hg9 := andW_an (w := w3) ⟨_, HL.out.ab⟩ ⟨_, HL.out.bb⟩ ⟨_, HL.out.db⟩
  generalize andW w3 w.heap.size (w.heap.size + 1) (w.heap.size + 1 + 1) = W9 at *
  have hlw := HL.out.below
  have hls := hlw.size
  have hrl := HR.out.lt
  have hbw9 : Below w.heap.size w W9 := hlw.trans (hb9.mono hls)
  have HR9 := hid (HR.out.below hb9 HR.out.lt)
  have HIN := hid (show AnIn (AV.of w3.heap.size w.heap.size (w.heap.size + 1) (w.heap.size + 1 + 1)) (.slice AA a.length acap) (.slice AB b.length bcap) (.slice D ds.length dcap) a b ds Z w.heap.size W9 ⟨[], []⟩ (fun b => b = w3.heap.size) (fun _ => False) from by
   refine ⟨hg9, HL.out.na.keep (.of_below hb9), HL.out.nb.keep (.of_below hb9), HL.out.fs.keep (.of_below hb9), fun x hx => ⟨⟨fun e => ?_, fun e => ?_⟩, ?_⟩, HTAB.out.on hbw9, ⟨hbw9.size, fun x hx => by subst hx; exact hls, ?_⟩, WStA.new, by simp [inn], HIA.out, HIB.out⟩
   ·have := HZ.out x hx; omega
   ·have := HZ.out x hx
    have e : x = w3.heap.size + 1 + 1 := e
    omega
   ·have := HZ.out x hx; omega
   ·show w.heap.size ≤ w3.heap.size + 1 + 1; omega)
  have HCALL := hid (both_any (ds.length + 1) 0 0 W9 ⟨[], []⟩ (fun b => b = w3.heap.size) (fun _ => False) HIA.out.rng HIB.out.rng (and_meas HIA.out HIB.out) HIN.out)
  have HB9 := hid hbw9
  clear hg9 hb9 hbw9 hlw HL HR
  refine HCALL.out.mono ?_
  clear HCALL
  intro e w11 hp11
  obtain ⟨rfl, ⟨F', Z', hg11, hF', hZ'⟩, hk11⟩ := hp11
  have hbr11 : Blk w11 (w.heap.size + 1 + 1 + 1) 34 #[.slice none 0 0] := HR9.out.keep hk11 ⟨fun e => by have e : w.heap.size + 1 + 1 + 1 = w3.heap.size := e; omega, fun e => by have e : w.heap.size + 1 + 1 + 1 = w3.heap.size + 1 + 1 := e; omega⟩
  have hbw11 : Below w.heap.size w w11 := HB9.out.trans ⟨hk11.os, hk11.tape, hk11.output, hk11.size, fun b hb => hk11.block b (by have := HB9.out.size; omega) ⟨fun e => by have e : b = w3.heap.size := e; omega, fun e => by have e : b = w3.heap.size + 1 + 1 := e; omega⟩⟩
  have m0 : w11.cell? ⟨w3.heap.size + 1, 0, none⟩ = some (.pointer (some ⟨w3.heap.size, 0, none⟩)) := hg11.mv.cell
  have m0l : w3.heap.size + 1 < w11.heap.size := hg11.mv.lt
  have hmk : MkS w11 w3.heap.size (bothS ds a b (ds.length + 1) 0 0 ⟨[], []⟩).2.all F' Z' := hg11.mkr
  obtain ⟨AL, alcap, l0, l0l⟩ := hmk.all_cell
  have hall : (bothS ds a b (ds.length + 1) 0 0 ⟨[], []⟩).2.all.length ≤ 5000 := by
   have h1 := HBW.out.1.tab.len
   have h2 := HBW.out.2.2
   have h4 := validDom_len HIA.out.dom
   have h5 : inn [] = 0 := rfl
   simp only [h5] at h2
   omega
  have hks := hk11.size
  have HMK := hid (And.intro hmk (fun b hb => (by rcases hZ' b hb with h | h; exact h.elim; omega : w.heap.size + 1 + 1 + 1 < b)))
  have HW11 := hid (And.intro hbr11 hbw11)
  have r0 : w11.cell? ⟨w.heap.size + 1 + 1 + 1, 0, none⟩ = some (.slice none 0 0) := hbr11.cell 0
  have rf : w11.frozen? ⟨w.heap.size + 1 + 1 + 1, 0, none⟩ = false := hbr11.frozen 0
  have rl : w.heap.size + 1 + 1 + 1 < w11.heap.size := hbr11.lt
  clear hg11 hF' hZ' hk11 hbr11 hbw11 hmk HR9 HIN HBW
  generalize bothS ds a b (ds.length + 1) 0 0 ⟨[], []⟩ = r at *
  by_cases hfull : 4000 < r.2.all.length
  ·have HQ := hid (HU.out.trans (if_pos hfull))
   have e1 : decide ((4000 : Int) < (r.2.all.length : Int)) = true := by simp; omega
   have e2 : decide (4000 < r.2.all.length) = true := by simp; omega
   clear hfull HU HBS
   go_wp2
   have r1 := (HW11.out.1.set_ 0 (.slice none 0 0)).cell 0
   refine bodyPost_ret (v := .tuple #[.agg #[.slice none 0 0], .int .i64 2]) (by simp [results, Tryz.results24, go_sem, r1]) rfl ?_
   rw [HQ.out]
   exact ⟨_, rfl, nil_nodes _ _, HW11.out.2.setCell (p := ⟨w.heap.size + 1 + 1 + 1, 0, none⟩) (by show w.heap.size ≤ w.heap.size + 1 + 1 + 1; omega) _⟩
  ·have HQ := hid (HU.out.trans (if_neg hfull))
   have e1 : decide ((4000 : Int) < (r.2.all.length : Int)) = false := by simp; omega
   have e2 : decide (4000 < r.2.all.length) = false := by simp; omega
   obtain ⟨hgi, hfor⟩ := HBS.out (by omega)
   have HFR := hid (from_any ds r.2.all hgi.good (by omega) w3.heap.size F' Z' r.1 w11 hfor.rng HMK.out.1)
   clear hfull HU HBS hgi hfor
   go_wp2_with fail
   refine HFR.out.mono ?_
   rintro e w12 ⟨v12, rfl, hn12, hb12⟩
   have hbr12 := HW11.out.1.below hb12 HW11.out.1.lt
   have hbw12 := HW11.out.2.trans (hb12.mono HW11.out.2.size)
   clear r0 rf rl m0 m0l l0 l0l
   have r0 : w12.cell? ⟨w.heap.size + 1 + 1 + 1, 0, none⟩ = some (.slice none 0 0) := hbr12.cell 0
   have rf : w12.frozen? ⟨w.heap.size + 1 + 1 + 1, 0, none⟩ = false := hbr12.frozen 0
   have rl : w.heap.size + 1 + 1 + 1 < w12.heap.size := hbr12.lt
   have hlive : Nodes (fun b => w.heap.size ≤ b ∧ b ≠ w.heap.size + 1 + 1 + 1) w12 v12 (fromS ds r.2.all r.1).1 := hn12.mono fun b hb => by
    have h11 := HW11.out.1.lt
    rcases hb with hb | hb
    ·have := HMK.out.2 b hb; omega
    ·omega
   obtain ⟨A12, cap12, rfl, -⟩ := hn12
   have HN := hid (And.intro hlive (And.intro hbr12 hbw12))
   clear hlive hbr12 hbw12 hb12
   go_wp2
   have r1 := (HN.out.2.1.set_ 0 (.slice A12 (fromS ds r.2.all r.1).1.length cap12)).cell 0
   refine bodyPost_ret (v := .tuple #[.agg #[.slice A12 (fromS ds r.2.all r.1).1.length cap12], .int .i64 (fromS ds r.2.all r.1).2]) (by simp [results, Tryz.results24, go_sem, r1]) rfl ?_
   rw [HQ.out]
   exact ⟨_, rfl, (HN.out.1.keep ((Keeps.refl _ _).setCell (fun _ h => h.2 rfl) _)).mono (fun b hb => Or.inr hb.1), HN.out.2.2.setCell (p := ⟨w.heap.size + 1 + 1 + 1, 0, none⟩) (by show w.heap.size ≤ w.heap.size + 1 + 1 + 1; omega) _⟩
 ·have hr : validS ds a = false ∨ validS ds b = false := by cases h1 : validS ds a <;> cases h2 : validS ds b <;> simp_all
  have e : andS ds a b = ([], 1) := by unfold andS; rw [if_neg hv]
  rw [e]
  refine (and_refuses Z va vb vd a b ds w ha hb hd hz htab hr).mono ?_
  rintro e w' ⟨rfl, hb'⟩
  exact ⟨_, rfl, nil_nodes _ _, hb'⟩
end Go.Proofs.YtcigjmlileckhaaGreatDoor
