/- Walk of diagram.Valid. -/
import Derived.Test.YtcigjmlileckhaaGreatDoorM9
import Derived.Test.YtcigjmlileckhaaGreatDoorM13
/- Walk of diagram.Valid. -/
namespace Go.Proofs.YtcigjmlileckhaaGreatDoor
open Go.RowKit
theorem Tryz.egValid1 : ∀ args w, (callFunc 54 args).run Tryz.prog w = .ok (.enter 54 args) w := enters_of Tryz.func54 (by kernel_rfl) rfl
set_option maxRecDepth 100000 in
set_option maxHeartbeats 4000000 in
theorem valid1_any (Gb Db : Nat) (Z : Zone) (vg vd : Value) (g : List NodeD) (ds : List FactD) (n : NodeD) (cs : List Value) (w : World) (hG : w.cell? ⟨Gb, 0, none⟩ = some vg) (hD : w.cell? ⟨Db, 0, none⟩ = some vd)
  (hg : Nodes Z w vg g) (hn : NodeR Z w cs n) (hd : Facts Z w vd ds) :
  Calls Tryz.prog 54 #[.agg cs.toArray, .pointer (some ⟨Gb, 0, none⟩), .pointer (some ⟨Db, 0, none⟩)] w fun e w' => e = .returned (.bool (!properB ds g n)) ∧ Below w.heap.size w w' := by
 have hb := fun o => below1 w o
 have HC := hid (fun o => proper_any Z vg vd g ds n cs (w.alloc o) (hg.keep (.of_below (hb o))) (hn.keep (.of_below (hb o))) (hd.keep (.of_below (hb o))))
 have hGl := lt_of_cell hG
 have hDl := lt_of_cell hD
 obtain ⟨vc, vk, rfl, -, hc, hk⟩ := hn
 obtain ⟨C, cc, rfl, -⟩ := hc.form
 obtain ⟨K, kc, rfl, -⟩ := hk.form
 obtain ⟨A, cap, rfl, -⟩ := hg
 obtain ⟨⟨D, dcap, rfl, -⟩, -⟩ := hd
 clear hc hk
 go_enter Tryz.func54, Tryz.ntmps54
 go_wp2_with fail
 refine (HC.out _).mono ?_
 rintro e w1 ⟨rfl, hb1⟩
 have hbw := HBEL_trans (below1 w _) hb1
 go_wp2
 go_ret
 exact ⟨rfl, hbw⟩
theorem asc_len {lo hi : Int} : ∀ {l : List Int}, ascFrom lo hi l → (l.length : Int) ≤ hi - lo ∨ l = []
 | [], _ => Or.inr rfl
 | c :: r, h => by
  have ih := asc_len h.2.2
  have h1 := h.1
  have h2 := h.2.1
  left
  rcases ih with ih | rfl
  ·simp only [List.length_cons]; omega
  ·simp only [List.length_cons, List.length_nil]; omega
theorem factOk_bounds {f : FactD} (h : factOk f = true) : 0 ≤ f.lo ∧ f.lo ≤ f.hi ∧ f.hi ≤ 1000000 := by
 unfold factOk at h
 simp only [Bool.and_eq_true, Bool.or_eq_true, beq_iff_eq, decide_eq_true_eq] at h
 omega
theorem validDom_fact {ds : List FactD} (h : validDom ds = true) {f : FactD} (hf : f ∈ ds) : factOk f = true := by
 unfold validDom at h
 simp only [Bool.and_eq_true, List.all_eq_true] at h
 exact h.1.1 f hf
theorem fAt_mem {ds : List FactD} {i : Int} (h0 : 0 ≤ i) (h1 : i < ds.length) : fAt ds i ∈ ds := by
 unfold fAt
 rw [List.getD_eq_getElem?_getD, List.getElem?_eq_getElem (by omega)]
 exact List.getElem_mem _
theorem proper_len {ds : List FactD} {g : List NodeD} {n : NodeD} (hd : validDom ds = true) (h : Proper ds g n) : n.cuts.length ≤ 1000000 ∧ n.kids.length ≤ 1000001 := by
 rcases h with h | h
 ·rw [h.1, h.2.2]; simp
 ·have hb := factOk_bounds (validDom_fact hd (fAt_mem h.f0 h.f1))
  have hl := h.len
  rcases asc_len h.asc with e | e
  ·omega
  ·rw [e] at hl ⊢; simp at hl ⊢; omega
/-- What the nodes' making leaves, k nodes on. -/
def ValL (Z : Zone) (w0 wr : World) (M Gb : Nat) (vg : Value) (g : List NodeD) (k : Nat) : Prop :=
 ∃ F Z', MkS wr M (g.take k) F Z' ∧ (∀ b, F b → M ≤ b) ∧ (∀ b, Z' b → Z b ∧ b < w0.heap.size) ∧ Below w0.heap.size w0 wr ∧ wr.cell? ⟨Gb, 0, none⟩ = some vg ∧ (g.take k).Nodup
set_option maxRecDepth 100000 in
set_option maxHeartbeats 4000000 in
theorem dvalid_any (Z : Zone) (vg vd : Value) (g : List NodeD) (ds : List FactD) (w : World) (hg : Nodes Z w vg g) (hd : Facts Z w vd ds) (htab : TabB w.heap.size w) :
  Calls Tryz.prog 15 #[.agg #[vg], .agg #[vd]] w fun e w' => e = .returned (.bool (validS ds g)) ∧ Below w.heap.size w w' := by
 have eg := Tryz.egValid1
 have hb2 := (below1 w (.cells #[vg] 34)).alloc (by simp) (.cells #[vd] 27)
 have HV := hid (factValid_any Z vd ds _ (hd.keep (.of_below hb2)))
 have hbg := (Blk.new w 34 #[vg]).alloc (.cells #[vd] 27)
 have hbd := Blk.new' (w.alloc (.cells #[vg] 34)) 27 #[vd] (n := w.heap.size + 1) (by simp)
 have HB2 := hid hb2
 have HBG := hid hbg
 have HBD := hid hbd
 have HG := hid hg
 have HD := hid hd
 have HT := hid htab
 have HU := hid (show validS ds g = (validDom ds && decide (g ≠ []) && decide (g.length ≤ 4000) && g.all (properB ds g) && decide g.Nodup && decide (canonS ds g 0 = g)) from rfl)
 obtain ⟨A, cap, rfl, hcap, hlen, hat⟩ := hg.open_
 obtain ⟨D, dcap, rfl, -, -, -⟩ := hd.open_
 have HAT := hid hat
 clear hb2 hbg hbd hg hd htab hat
 go_enter Tryz.func15, Tryz.ntmps15
 by_cases hv : validDom ds = true
 ·rw [hv] at HV HU
  have HVD := hid hv
  simp only [Bool.true_and] at HU
  clear hv
  go_wp2_with fail
  refine HV.out.mono ?_
  rintro e w1 ⟨rfl, hb1⟩
  have hbg := HBG.out.below hb1 HBG.out.lt
  have hbd := HBD.out.below hb1 HBD.out.lt
  have g0 : w1.cell? ⟨w.heap.size, 0, none⟩ = some (.slice A g.length cap) := hbg.cell 0
  have g0l := hbg.lt
  have d0l := hbd.lt
  have HBG1 := hid hbg
  have HBD1 := hid hbd
  have HBW := hid (HB2.out.trans (hb1.mono HB2.out.size))
  clear hbg hbd hb1 HBG HBD HB2 HV
  by_cases he : g = []
  ·have e1 : ((g.length : Int) == 0) = true := by simp [he]
   rw [decide_eq_false (show ¬ g ≠ [] by simp [he])] at HU
   simp only [Bool.false_and] at HU
   clear he
   go_wp2
   go_ret
   rw [HU.out]
   exact ⟨rfl, HBW.out⟩
  have e1 : ((g.length : Int) == 0) = false := by simp [he]
  rw [decide_eq_true he] at HU
  simp only [Bool.true_and] at HU
  have HNE := hid he
  clear he
  by_cases hl : g.length ≤ 4000
  ·have e2 : decide ((4000 : Int) < (g.length : Int)) = false := by simp; omega
   have e2' : decide (4000 < g.length) = false := by simp; omega
   rw [decide_eq_true hl] at HU
   simp only [Bool.true_and] at HU
   have HR := hid (SeqR.imp (R := NodeR Z w) (R' := NodeR Z w) (fun _ _ h => h) (Keeps.of_below HBW.out) (fun _ h => h) (by obtain ⟨_, _, e, _, _, _, h⟩ := HG.out; injection e with e1; subst e1; exact h))
   have HC := hid (containsFuncNode_any 54 #[.pointer (some ⟨w.heap.size, 0, none⟩), .pointer (some ⟨w.heap.size + 1, 0, none⟩)] Tryz.egValid1 (NodeR Z w) Z g (fun i => !properB ds g (g.getD i noNode)) A cap w1
    (fun cs x h => by obtain ⟨a, b, e, _⟩ := h; exact ⟨_, _, _, _, e⟩) HR.out (by omega) (fun i hi cs hcs W hW => by
     have hww := HBW.out.trans (hW.mono HBW.out.size)
     have := valid1_any w.heap.size (w.heap.size + 1) Z _ _ g ds g[i] cs W ((hW.cell (p := ⟨w.heap.size, 0, none⟩) g0l).trans g0) ((hW.cell (p := ⟨w.heap.size + 1, 0, none⟩) d0l).trans (HBD1.out.cell 0)) (HG.out.keep (.of_below hww)) (hcs.keep (.of_below hww)) (HD.out.keep (.of_below hww))
     have e : g.getD i noNode = g[i] := by simp [List.getD_eq_getElem?_getD, hi]
     show Calls Tryz.prog 54 _ W fun e W' => e = .returned (.bool (!properB ds g (g.getD i noNode))) ∧ Below W.heap.size W W'
     rw [e]; exact this))
   have hall : decide ((0 : Int) ≤ firstIdx (fun i => !properB ds g (g.getD i noNode)) g.length 0) = !g.all (properB ds g) := by
    rcases firstIdx_spec (fun i => !properB ds g (g.getD i noNode)) g.length 0 with ⟨k, h0, h1, h2, h3, e⟩ | ⟨h0, e⟩
    ·rw [e]
     have hk : k < g.length := by omega
     have : g.all (properB ds g) = false := by
      rw [List.all_eq_false]
      refine ⟨g[k], List.getElem_mem hk, ?_⟩
      have e : g.getD k noNode = g[k] := by simp [List.getD_eq_getElem?_getD, hk]
      simp only [e] at h2
      simpa using h2
     rw [this]; simp
    ·rw [e]
     have : g.all (properB ds g) = true := by
      rw [List.all_eq_true]
      intro x hx
      obtain ⟨k, hk, rfl⟩ := List.getElem_of_mem hx
      have := h0 k (Nat.zero_le _) (by omega)
      have e : g.getD k noNode = g[k] := by simp [List.getD_eq_getElem?_getD, hk]
      simp only [e] at this
      simpa using this
     rw [this]; rfl
   rw [hall] at HC
   clear hall HR
   cases hp : g.all (properB ds g) with
   | false =>
    rw [hp] at HC HU
    simp only [Bool.not_false, Bool.false_and] at HC HU
    clear hp hl
    go_wp2_with fail
    refine HC.out.mono ?_
    rintro e w2 ⟨rfl, hb2⟩
    have hbw := HBW.out.trans (hb2.mono HBW.out.size)
    go_wp2
    go_ret
    rw [HU.out]
    exact ⟨rfl, hbw⟩
   | true =>
    rw [hp] at HC HU
    simp only [Bool.not_true, Bool.true_and] at HC HU
    have HPR := hid (show ∀ n ∈ g, Proper ds g n from fun n hn => properB_iff.1 (List.all_eq_true.1 hp n hn))
    have HL := hid hl
    clear hp hl
    go_wp2_with fail
    refine HC.out.mono ?_
    rintro e w2 ⟨rfl, hb2⟩
    have hbg := HBG1.out.below hb2 HBG1.out.lt
    have g0 : w2.cell? ⟨w.heap.size, 0, none⟩ = some (.slice A g.length cap) := hbg.cell 0
    have g0l := hbg.lt
    have HBW2 := hid (HBW.out.trans (hb2.mono HBW.out.size))
    clear hbg hb2 HBG1 HBD1 HBW HC
    go_wp2
    have HB3 := hid (And.intro g0 (And.intro g0l HBW2.out.size))
    clear g0
    go_loopw [38] (fun i wr => ∃ k : Nat, k ≤ g.length ∧ i = .int .i64 k ∧ ValL Z w wr w2.heap.size w.heap.size (.slice A g.length cap) g k) (fun i _ => g.length - (intOf i).toNat)
    case atStart =>
     exact ⟨0, Nat.zero_le _, rfl, fun b => b = w2.heap.size, fun _ => False, MkS.new w2, fun b h => by omega, fun b h => h.elim, HBW2.out.alloc HBW2.out.size _, cell_alloc HB3.out.1 _, by simp⟩
    case round =>
     obtain ⟨k, hk, rfl, F, Z', hmk, hF, hZ', hbel, hg0, hnd⟩ := hrel
     by_cases hlt : k < g.length
     ·obtain ⟨b, off, vc, vk, rfl, hz, hb, c0, c1, c2, c3, hf, hc, hkk⟩ := HAT.out k hlt
      obtain ⟨VC, ccap, rfl, -⟩ := hc.form
      obtain ⟨VK, kcap, rfl, -⟩ := hkk.form
      replace c0 := (hbel.cell (p := ⟨b, off + k * 4, none⟩) hb).trans c0
      replace c1 := (hbel.cell (p := ⟨b, off + k * 4 + 1, none⟩) hb).trans c1
      replace c2 := (hbel.cell (p := ⟨b, off + k * 4 + 2, none⟩) hb).trans c2
      replace c3 := (hbel.cell (p := ⟨b, off + k * 4 + 3, none⟩) hb).trans c3
      have hbr := lt_of_cell c0
      have hpl := proper_len HVD.out (HPR.out _ (List.getElem_mem hlt))
      have hsz := HB3.out.2.2
      have HN := hid (fun W (hW : Below wr.heap.size wr W) => node_any w2.heap.size (g.take k) F Z' (fun b => Z b ∧ b < w.heap.size) g[k] [.bool g[k].leaf, .int .i64 g[k].fact, .slice VC g[k].cuts.length ccap, .slice VK g[k].kids.length kcap] W (hmk.below hW)
       ⟨⟨_, _, rfl, hf, (hc.live.keep (.of_below (hbel.trans (hW.mono hbel.size)))), (hkk.live.keep (.of_below (hbel.trans (hW.mono hbel.size))))⟩, fun b hb => ⟨fun h => by have := hF b h; omega, by have := hbel.size; have := hW.size; omega⟩, by omega, by omega⟩
       (by have := HL.out; rw [List.length_take]; omega) ((HT.out.on (hbel.trans (hW.mono hbel.size))).mono (by have := hbel.size; have := hW.size; omega)))
      have HNX := hid (fun (W w' : World) (hW : Below wr.heap.size wr W) (hN : g[k] ∉ g.take k) (hP : MkPost W w2.heap.size F (fun b => Z' b ∨ (Z b ∧ b < w.heap.size)) (nodeS (g.take k) g[k]) (.returned (.int .i64 (nodeS (g.take k) g[k]).1)) w') =>
       (show ValL Z w w' w2.heap.size w.heap.size (.slice (some ⟨b, off, none⟩) g.length cap) g (k + 1) from by
        obtain ⟨-, ⟨F', h1, h2⟩, h3⟩ := hP
        rw [show (nodeS (g.take k) g[k]).2 = g.take (k + 1) from by unfold nodeS; rw [if_neg hN, List.take_succ_eq_append_getElem hlt]] at h1
        refine ⟨F', _, h1, fun b h => ?_, fun b h => ?_, ?_, ?_, ?_⟩
        ·rcases h2 b h with h | h
         ·exact hF b h
         ·have := hmk.liveF _ hmk.fM; have := hW.size; omega
        ·rcases h with h | h
         ·exact hZ' b h
         ·exact h
        ·have hbW := hbel.trans (hW.mono hbel.size)
         exact hbW.trans ⟨h3.os, h3.tape, h3.output, h3.size, fun b hb => h3.block b (by have := hbW.size; omega) (fun h => by have := hF b h; omega)⟩
        ·exact h3.cell (p := ⟨w.heap.size, 0, none⟩) (fun h => by have h' : w2.heap.size ≤ w.heap.size := hF _ h; have := HB3.out.2.1; omega) ((hW.cell (p := ⟨w.heap.size, 0, none⟩) (lt_of_cell hg0)).trans hg0)
        ·rw [List.take_succ_eq_append_getElem hlt, List.nodup_append]
         exact ⟨hnd, by simp, fun a ha b hb e => by simp at hb; subst hb; exact hN (e ▸ ha)⟩))
      have HND := hid (show g[k] ∈ g.take k → g.Nodup → False from fun hm hn => by
       have hd : g[k] ∈ g.drop k := by rw [List.drop_eq_getElem_cons hlt]; exact List.mem_cons_self
       generalize g[k] = nd at *
       rw [← List.take_append_drop k g, List.nodup_append] at hn
       exact hn.2.2 _ hm nd hd rfl)
      have HIX := hid (show (g[k] ∈ g.take k → (nodeS (g.take k) g[k]).1 = ((g.take k).idxOf g[k] : Nat) ∧ (g.take k).idxOf g[k] < k) ∧ (g[k] ∉ g.take k → (nodeS (g.take k) g[k]).1 = (k : Nat)) from
       ⟨fun h => ⟨by unfold nodeS; rw [if_pos h], by have := List.idxOf_lt_length_of_mem h; rw [List.length_take] at this; omega⟩, fun h => by unfold nodeS; rw [if_neg h, List.length_take]; simp; omega⟩)
      have HPB := hid (fun (W w' : World) (hW : Below wr.heap.size wr W) (e : Ending) (hP : MkPost W w2.heap.size F (fun b => Z' b ∨ (Z b ∧ b < w.heap.size)) (nodeS (g.take k) g[k]) e w') => (show Below w.heap.size w w' from by
        obtain ⟨-, -, h3⟩ := hP
        have hbW := hbel.trans (hW.mono hbel.size)
        exact hbW.trans ⟨h3.os, h3.tape, h3.output, h3.size, fun b hb => h3.block b (by have := hbW.size; omega) (fun h => by have := hF b h; omega)⟩))
      have hM := hmk.liveF _ hmk.fM
      have hk1 : ((k : Nat) : Int) < (g.length : Int) := by omega
      have hk0 : (0 : Int) ≤ ((k : Nat) : Int) := by omega
      have HBE := hid (fun o => below1 wr o)
      clear hmk hF hZ' hbel hg0 hnd hf hc hkk hb hpl
      generalize hr : nodeS (g.take k) g[k] = r at *
      by_cases hm : g[k] ∈ g.take k
      ·have hix := HIX.out.1 hm
       have hnd := HND.out hm
       rw [decide_eq_false (show ¬ g.Nodup from fun h => hnd h)] at HU
       simp only [Bool.false_and] at HU
       obtain ⟨q, hq, hqk⟩ : ∃ q : Nat, r.1 = (q : Int) ∧ q < k := ⟨_, hix.1, hix.2⟩
       have e5 : (r.1 != (k : Int)) = true := by rw [hq]; simp; omega
       clear hm hix hnd HIX HND HNX hr hq
       generalize g[k] = nd at *
       go_wp2_with fail
       refine (HN.out _ (HBE.out _)).mono ?_
       rintro e w3 ⟨rfl, hp3⟩
       have HP3 := hid (HPB.out _ _ (HBE.out _) _ ⟨rfl, hp3⟩)
       clear hp3
       go_wp2
       go_ret
       rw [HU.out]
       exact ⟨rfl, HP3.out⟩
      ·have hix := HIX.out.2 hm
       have e5 : (r.1 != (k : Int)) = false := by rw [hix]; simp
       have HNX2 := hid (fun (W w' : World) (hW : Below wr.heap.size wr W) hP => HNX.out W w' hW hm hP)
       clear hm hix HIX HND HNX hr
       generalize g[k] = nd at *
       go_wp2_with fail
       refine (HN.out _ (HBE.out _)).mono ?_
       rintro e w3 ⟨rfl, hp3⟩
       have HP3 := hid (HNX2.out _ _ (HBE.out _) ⟨rfl, hp3⟩)
       clear hp3
       go_wp2
       go_roundw
       case rel => exact ⟨k + 1, by omega, by go_num, HP3.out⟩
       case measure => simp [intOf]; omega
     ·obtain rfl : k = g.length := by omega
      rw [List.take_length] at hmk hnd
      have hgood : Good ds g := ⟨HPR.out, hnd⟩
      have hrng : Rng g 0 := ⟨Int.le_refl _, by have := List.length_pos_iff.2 HNE.out; omega⟩
      rw [decide_eq_true hnd] at HU
      simp only [Bool.true_and] at HU
      have hord := (order_spec hgood hrng).length_le
      have hfs : fromS ds g 0 = (canonS ds g 0, 0) := by unfold fromS; rw [if_neg (by have := HL.out; omega)]
      have HF := hid (from_any ds g hgood (by have := HL.out; omega) w2.heap.size F Z' 0 wr hrng hmk)
      rw [hfs] at HF
      have hM := hmk.liveF _ hmk.fM
      have HB4 := hid (And.intro hbel hg0)
      have hg0l := lt_of_cell hg0
      clear hnd hgood hrng hord hfs hmk hF hZ' hbel
      go_wp2_with fail
      refine HF.out.mono ?_
      rintro e w3 ⟨v3, rfl, hn3, hb3⟩
      have hg3 := (hb3.cell (p := ⟨w.heap.size, 0, none⟩) hg0l).trans hg0
      have hg3l := lt_of_cell hg3
      have hbw3 := HB4.out.1.trans (hb3.mono HB4.out.1.size)
      have hn3' := hn3
      obtain ⟨A3, cap3, rfl, -⟩ := hn3'
      have HS := hid (fun o => dsame_any _ Z (.slice A3 (canonS ds g 0).length cap3) (.slice A g.length cap) (canonS ds g 0) g (w3.alloc o) (hn3.keep ((Keeps.refl _ _).alloc o)) (HG.out.keep (.of_below (hbw3.alloc hbw3.size o))))
      have HB5 := hid hbw3
      clear hn3 hb3 hbw3 hg0
      go_wp2_with fail
      refine (HS.out _).mono ?_
      rintro e w4 ⟨rfl, hb4⟩
      have hbw4 := (HB5.out.alloc HB5.out.size _).trans (hb4.mono (by have := HB5.out.size; simp; omega))
      go_wp2
      go_ret
      rw [HU.out]
      exact ⟨rfl, hbw4⟩
  ·have e2 : decide ((4000 : Int) < (g.length : Int)) = true := by simp; omega
   have e2' : decide (4000 < g.length) = true := by simp; omega
   rw [decide_eq_false hl] at HU
   simp only [Bool.false_and] at HU
   clear hl
   go_wp2
   go_ret
   rw [HU.out]
   exact ⟨rfl, HBW.out⟩
 ·have hv' : validDom ds = false := by simpa using hv
  rw [hv'] at HV HU
  simp only [Bool.false_and] at HU
  clear hv hv'
  go_wp2_with fail
  refine HV.out.mono ?_
  rintro e w1 ⟨rfl, hb1⟩
  have HBW := hid (HB2.out.trans (hb1.mono HB2.out.size))
  go_wp2
  go_ret
  rw [HU.out]
  exact ⟨rfl, HBW.out⟩
end Go.Proofs.YtcigjmlileckhaaGreatDoor
