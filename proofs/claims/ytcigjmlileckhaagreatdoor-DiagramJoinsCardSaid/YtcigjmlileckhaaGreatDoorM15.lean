/- Walk of diagram.Least. -/
import Derived.Test.YtcigjmlileckhaaGreatDoorM14
import Derived.Test.YtcigjmlileckhaaGreatDoorM10
import Derived.Laws.BitsLemmas
/- Walk of diagram.Least. -/
namespace Go.Proofs.YtcigjmlileckhaaGreatDoor
open Go.RowKit
theorem Tryz.egLeast1 : ∀ args w, (callFunc 63 args).run Tryz.prog w = .ok (.enter 63 args) w := enters_of Tryz.func63 (by kernel_rfl) rfl
set_option maxRecDepth 100000 in
set_option maxHeartbeats 4000000 in
theorem least1_any (Gb : Nat) (Z : Zone) (vg : Value) (g : List NodeD) (k : Int) (w : World) (hG : w.cell? ⟨Gb, 0, none⟩ = some vg) (hg : Nodes Z w vg g) (hk : Rng g k) :
  Calls Tryz.prog 63 #[.int .i64 k, .pointer (some ⟨Gb, 0, none⟩)] w fun e w' => e = .returned (.bool (live g k)) ∧ Below w.heap.size w w' := by
 have hGl := lt_of_cell hG
 obtain ⟨A, cap, rfl, hcap, hlen, hat⟩ := hg.open_
 obtain ⟨n, rfl⟩ := Int.eq_ofNat_of_zero_le hk.1
 have hn : n < g.length := by have := hk.2; omega
 obtain ⟨b, off, vc, vk, rfl, -, hb, c0, -, -, c3, -, -, hkk⟩ := hat n hn
 obtain ⟨VK, kcap, rfl, -⟩ := hkk.form
 have HU := hid (show live g (n : Int) = (decide (g[n].kids ≠ []) || g[n].leaf) from by unfold live; rw [nAt_nat hn])
 have hn1 : ((n : Nat) : Int) < (g.length : Int) := by omega
 have hn0 : (0 : Int) ≤ ((n : Nat) : Int) := by omega
 clear hg hat hkk hk
 generalize g[n] = m at *
 go_enter Tryz.func63, Tryz.ntmps63
 by_cases he : m.kids = []
 ·have e1 : decide ((0 : Int) < (m.kids.length : Int)) = false := by simp [he]
  have e1' : decide (0 < m.kids.length) = false := by simp [he]
  rw [decide_eq_false (by simp [he]), Bool.false_or] at HU
  clear he
  go_wp2
  go_ret
  rw [HU.out]
  exact ⟨rfl, Below.refl _ _⟩
 ·have e1 : decide ((0 : Int) < (m.kids.length : Int)) = true := by simp; exact List.length_pos_iff.2 he
  have e1' : decide (0 < m.kids.length) = true := by simp; exact List.length_pos_iff.2 he
  rw [decide_eq_true he, Bool.true_or] at HU
  clear he
  go_wp2
  go_ret
  rw [HU.out]
  exact ⟨rfl, Below.refl _ _⟩
theorem firstIdx_find (p : Int → Bool) (l : List Int) (h : l.findIdx p < l.length) : firstIdx (fun i => p (l.getD i 0)) l.length 0 = (l.findIdx p : Nat) := by
 refine firstIdx_hit (fun j _ hj => ?_) (Nat.zero_le _) (by omega) ?_
 ·have hj' : j < l.length := by omega
  have := List.not_of_lt_findIdx hj
  simp only [List.getD_eq_getElem?_getD, List.getElem?_eq_getElem hj', Option.getD_some]
  simpa using this
 ·have := List.findIdx_getElem (w := h)
  simp only [List.getD_eq_getElem?_getD, List.getElem?_eq_getElem h, Option.getD_some]
  exact this
def LeastPost (w : World) (r : Option (List Int)) (e : Ending) (w' : World) : Prop :=
 ∃ v, e = .returned (.tuple #[v, .bool r.isSome]) ∧ Ints (fun b => w.heap.size ≤ b) w' v (r.getD []) ∧ Below w.heap.size w w'
theorem leastW_step (g : List NodeD) (k : Nat) (i : Int) (c : List Int) : leastW g (k + 1) i c = if (nAt g i).kids = [] then (i, c)
  else leastW g k ((nAt g i).kids.getD ((nAt g i).kids.findIdx (live g)) 0)
   (if 0 < (nAt g i).kids.findIdx (live g) then c.set (nAt g i).fact.toNat ((nAt g i).cuts.getD ((nAt g i).kids.findIdx (live g) - 1) 0) else c) := rfl
set_option maxRecDepth 100000 in
set_option maxHeartbeats 8000000 in
theorem dleast_any (Z : Zone) (vg vd : Value) (g : List NodeD) (ds : List FactD) (w : World) (hg : Nodes Z w vg g) (hd : Facts Z w vd ds) (htab : TabB w.heap.size w) :
  Calls Tryz.prog 20 #[.agg #[vg], .agg #[vd]] w (LeastPost w (leastS ds g)) := by
 have eg := Tryz.egLeast1
 have hb2 := (below1 w (.cells #[vg] 34)).alloc (by simp) (.cells #[vd] 27)
 have hbg := (Blk.new w 34 #[vg]).alloc (.cells #[vd] 27)
 have hbd := Blk.new' (w.alloc (.cells #[vg] 34)) 27 #[vd] (n := w.heap.size + 1) (by simp)
 have HV := hid (dvalid_any Z vg vd g ds _ (hg.keep (.of_below hb2)) (hd.keep (.of_below hb2)) ((htab.on hb2).mono hb2.size))
 have HB2 := hid hb2
 have HBG := hid hbg
 have HBD := hid hbd
 have HG := hid hg
 have HD := hid hd
 have HU := hid (show leastS ds g = if validS ds g = true then (if (nAt g (leastW g (ds.length + 1) 0 (leastOf ds)).1).leaf = true then some (leastW g (ds.length + 1) 0 (leastOf ds)).2 else none) else none from rfl)
 obtain ⟨A, cap, rfl, hcap, hlen, hat⟩ := hg.open_
 obtain ⟨D, dcap, rfl, -, hdlen, -⟩ := hd.open_
 have HAT := hid hat
 clear hb2 hbg hbd hg hd htab hat
 go_enter Tryz.func20, Tryz.ntmps20
 by_cases hv : validS ds g = true
 ·rw [hv] at HV
  have HU2 := hid (HU.out.trans (if_pos hv))
  have HVAL := hid (validS_iff.1 hv)
  clear hv HU
  go_wp2_with fail
  refine HV.out.mono ?_
  rintro e w1 ⟨rfl, hb1⟩
  have hbg := HBG.out.below hb1 HBG.out.lt
  have hbd := HBD.out.below hb1 HBD.out.lt
  have d0 : w1.cell? ⟨w.heap.size + 1, 0, none⟩ = some (.slice D ds.length dcap) := hbd.cell 0
  have d0l := hbd.lt
  have hbw := HB2.out.trans (hb1.mono HB2.out.size)
  have HL := hid (factLeast_any Z (.slice D ds.length dcap) ds w1 (HD.out.keep (.of_below hbw)))
  have HW1 := hid (And.intro hbg hbw)
  clear hbg hbd hb1 hbw HV HBG HBD HB2
  go_wp2_with fail
  refine HL.out.mono ?_
  rintro e w2 ⟨vc, rfl, hown2, hb2⟩
  have hlo : leastOf ds = ds.map FactD.lo := leastOf_yes HVAL.out.dom
  have hlol : (leastOf ds).length = ds.length := by rw [hlo, List.length_map]
  obtain ⟨AC, ccap, rfl, -, -, -⟩ := Row.of_own hown2 (by decide)
  rw [hlol] at hown2
  have hbg := HW1.out.1.below hb2 HW1.out.1.lt
  have g0 : w2.cell? ⟨w.heap.size, 0, none⟩ = some (.slice A g.length cap) := hbg.cell 0
  have g0l := hbg.lt
  have hs1 := HW1.out.2.size
  have hbw := HW1.out.2.trans (hb2.mono hs1)
  have HBG2 := hid (And.intro hbg hbw)
  have HOWN2 := hid hown2
  have hrl := rank_le (ds := ds) (g := g) 0
  clear d0 d0l hb2 HL hbg hbw hown2 hlo
  simp only [hlol]
  go_wp2
  clear g0 g0l
  go_loopw [7] (fun a wr => ∃ (x : Int) (c : List Int) (m : Nat), a = .int .i64 x ∧ Rng g x ∧ rank ds g x < m ∧ c.length = ds.length ∧ wr.ownsRow w1.heap.size 3 1 (.slice AC ds.length ccap) ds.length (c.map (.int .i64)) ∧ Blk wr w.heap.size 34 #[.slice A g.length cap] ∧ Below w.heap.size w wr ∧ (∀ y ∈ c, I64 y) ∧ Hid (leastW g (ds.length + 1) 0 (leastOf ds) = leastW g m x c)) (fun a _ => rank ds g (intOf a))
  case atStart =>
   refine ⟨0, leastOf ds, ds.length + 1, rfl, HVAL.out.rng, by omega, hlol, HOWN2.out, HBG2.out.1, HBG2.out.2, fun y hy => ?_, rfl⟩
   rw [leastOf_yes HVAL.out.dom] at hy
   obtain ⟨f, hf, rfl⟩ := List.mem_map.1 hy
   have := factOk_bounds (validDom_fact HVAL.out.dom hf)
   constructor <;> omega
  case round =>
   rename World => wv
   obtain ⟨x, c, m, rfl, hx, hrm, hcl, hown, hbg, hbel, hci, hres⟩ := hrel
   have g0 : wv.cell? ⟨w.heap.size, 0, none⟩ = some (.slice A g.length cap) := hbg.cell 0
   have g0l := hbg.lt
   obtain ⟨m, rfl⟩ : ∃ m', m = m' + 1 := ⟨m - 1, by omega⟩
   have hres' := hres.out.trans (leastW_step g m x c)
   have HRK := hid (fun (hk : (nAt g x).kids ≠ []) => And.intro (HVAL.out.good.inner hx hk) (And.intro (HVAL.out.good.some_live (lohi_of HVAL.out.dom) hx hk) (fun k hk2 => HVAL.out.good.rank_kid hx (k := k) hk2)))
   obtain ⟨n, rfl⟩ := Int.eq_ofNat_of_zero_le hx.1
   have hn : n < g.length := by have := hx.2; omega
   have hnat := nAt_nat hn
   obtain ⟨b, off, vcu, vki, rfl, -, hb, c0, c1, c2, c3, hf, hcu, hki⟩ := HAT.out n hn
   have hbr : b < wv.heap.size := by have := hbel.size; omega
   replace c0 := (hbel.cell (p := ⟨b, off + n * 4, none⟩) hb).trans c0
   replace c1 := (hbel.cell (p := ⟨b, off + n * 4 + 1, none⟩) hb).trans c1
   replace c2 := (hbel.cell (p := ⟨b, off + n * 4 + 2, none⟩) hb).trans c2
   replace c3 := (hbel.cell (p := ⟨b, off + n * 4 + 3, none⟩) hb).trans c3
   have HCU := hid hcu
   have HKI := hid hki
   obtain ⟨VC, vcap, rfl, hcul⟩ := hcu.form
   obtain ⟨VK, kcap, rfl, hkil⟩ := hki.form
   have hn1 : ((n : Nat) : Int) < (g.length : Int) := by omega
   have hn0 : (0 : Int) ≤ ((n : Nat) : Int) := by omega
   rw [hnat] at hres' HRK
   have HRES := hid hres'
   have HB := hid (And.intro hbg (And.intro hbel (And.intro hown (And.intro hci hcl))))
   have HRM := hid hrm
   clear hres hres' hnat hbg hbel hown hci hcl hcu hki hrm hf
   by_cases hk0 : g[n].kids = []
   ·have hr := HRES.out
    rw [if_pos hk0] at hr
    have e1 : decide ((0 : Int) < (g[n].kids.length : Int)) = false := by simp [hk0]
    have e1' : decide (0 < g[n].kids.length) = false := by simp [hk0]
    have HR := hid (show leastS ds g = if g[n].leaf = true then some c else none from by rw [HU2.out, hr]; simp only; rw [nAt_nat hn])
    clear hk0 hr HRES HRK hx
    generalize g[n] = nd at *
    cases hlf : nd.leaf with
    | true =>
     rw [hlf] at HR c0
     simp only [if_true] at HR
     go_wp2
     refine bodyPost_ret (v := .tuple #[.slice AC ds.length ccap, .bool true]) (by simp [results, Tryz.results20, go_sem]) rfl ?_
     rw [HR.out]
     refine ⟨_, rfl, ?_, HB.out.2.1⟩
     have ho := HB.out.2.2.1
     have hio := Ints.of_own (xs := c) (by rw [← HB.out.2.2.2.2] at ho; exact ho) HB.out.2.2.2.1 (by have := HB.out.2.2.2.2; omega)
     rw [HB.out.2.2.2.2] at hio
     exact hio.mono fun b hb => by omega
    | false =>
     rw [hlf] at HR c0
     simp only [Bool.false_eq_true, if_false] at HR
     go_wp2
     refine bodyPost_ret (v := .tuple #[.slice none 0 0, .bool false]) (by simp [results, Tryz.results20, go_sem]) rfl ?_
     rw [HR.out]
     exact ⟨_, rfl, Ints.nil _ _, HB.out.2.1⟩
   ·have hr := HRES.out
    rw [if_neg hk0] at hr
    have hrk := HRK.out hk0
    have e1 : decide ((0 : Int) < (g[n].kids.length : Int)) = true := by simp; exact List.length_pos_iff.2 hk0
    have e1' : decide (0 < g[n].kids.length) = true := by simp; exact List.length_pos_iff.2 hk0
    have HI := hid (fun (W : World) (hW : Below wv.heap.size wv W) => indexFuncInt_any 63 #[.pointer (some ⟨w.heap.size, 0, none⟩)] Tryz.egLeast1 Z (.slice VK g[n].kids.length kcap) g[n].kids (live g) W (HKI.out.keep (.of_below (HB.out.2.1.trans (hW.mono HB.out.2.1.size))))
     (fun k hk W2 hW2 => least1_any w.heap.size Z (.slice (some ⟨b, off, none⟩) g.length cap) g k W2 ((hW2.cell (p := ⟨w.heap.size, 0, none⟩) (show w.heap.size < W.heap.size from by have := hW.size; omega)).trans ((hW.cell (p := ⟨w.heap.size, 0, none⟩) g0l).trans g0)) (HG.out.keep (.of_below (HB.out.2.1.trans ((hW.mono HB.out.2.1.size).trans (hW2.mono (by have := HB.out.2.1.size; have := hW.size; omega)))))) (hrk.2.2 k hk).1))
    rw [firstIdx_find _ _ hrk.2.1] at HI
    have hq := hrk.2.1
    have hlen := hrk.1.len
    have hf0 := hrk.1.f0
    have hf1 := hrk.1.f1
    have hkm := mem_getD hq
    have hrk2 := hrk.2.2 _ hkm
    have HRK2 := hid (And.intro hrk2.1 (And.intro hrk2.2 HRM.out))
    have HR := hid hr
    clear hr hrk HRES HRK HRM hk0 hkm hrk2 hx
    generalize hqq : g[n].kids.findIdx (live g) = q at *
    have hnd : nAt g ((n : Nat) : Int) = g[n] := nAt_nat hn
    have HLEN := hid hlen
    clear hqq hnd hlen
    generalize g[n] = nd at *
    obtain ⟨nl, nf, nc, nk⟩ := nd
    simp only at *
    obtain ⟨fi, rfl⟩ := Int.eq_ofNat_of_zero_le hf0
    have hfi : fi < ds.length := by omega
    have hfi1 : ((fi : Nat) : Int) < (ds.length : Int) := by omega
    have hfi0 : (0 : Int) ≤ ((fi : Nat) : Int) := by omega
    have hq1 : ((q : Nat) : Int) < (nk.length : Int) := by omega
    have hq0 : (0 : Int) ≤ ((q : Nat) : Int) := by omega
    have HBE := hid (fun o => below1 wv o)
    go_wp2_with fail
    refine (HI.out _ (HBE.out _)).mono ?_
    rintro e w3 ⟨rfl, hb3⟩
    have hx3 := (Blk.new wv 55 #[.bool nl, .int .i64 (fi : Int), .slice VC nc.length vcap, .slice VK nk.length kcap]).below hb3 (by simp)
    have hbw3 : Below wv.heap.size wv w3 := HBEL_trans (below1 wv _) hb3
    have hww3 := HB.out.2.1.trans (hbw3.mono HB.out.2.1.size)
    have n1 : w3.cell? ⟨wv.heap.size, 1, none⟩ = some (.int .i64 (fi : Int)) := hx3.cell 1
    have n2 : w3.cell? ⟨wv.heap.size, 2, none⟩ = some (.slice VC nc.length vcap) := hx3.cell 2
    have n3 : w3.cell? ⟨wv.heap.size, 3, none⟩ = some (.slice VK nk.length kcap) := hx3.cell 3
    have n1l := hx3.lt
    obtain ⟨kb, koff, rfl, -, hkb, hkc⟩ := HKI.out.at_ hq
    have hkv : nk.getD q 0 = nk[q] := by simp [List.getD_eq_getElem?_getD, hq]
    rw [hkv] at HR HRK2
    have hg3 := HB.out.1.below hbw3 HB.out.1.lt
    have hown3 : w3.ownsRow w1.heap.size 3 1 (.slice AC ds.length ccap) ds.length (c.map (.int .i64)) := own_keep HB.out.2.2.1 (Keeps.of_below (Z := fun _ => True) hbw3) (fun _ _ => trivial)
    have hclt := fun k hk => HB.out.2.2.1.lt k hk
    have HW3 := hid (And.intro hg3 (And.intro hww3 (And.intro hown3 hx3)))
    clear c0 c1 c2 c3 g0 g0l hb3 hbw3 hww3 hg3 hown3 HI
    generalize nk[q] = kx at *
    by_cases hqp : 0 < q
    ·have e2 : decide ((0 : Int) < ((q : Nat) : Int)) = true := by simp; exact hqp
     have e2' : decide (0 < q) = true := by simp; exact hqp
     rw [if_pos hqp] at HR
     obtain ⟨p, rfl⟩ : ∃ p, q = p + 1 := ⟨q - 1, by omega⟩
     rw [Nat.add_sub_cancel] at HR
     have hpc : p < nc.length := by have h := HLEN.out; omega
     obtain ⟨ub, uoff, rfl, -, hub, huc⟩ := HCU.out.at_ hpc
     have huv : nc.getD p 0 = nc[p] := by simp [List.getD_eq_getElem?_getD, hpc]
     have hui := HCU.out.fit _ (List.getElem_mem hpc)
     rw [huv] at HR
     have hu3 := (HW3.out.2.1.cell (p := ⟨ub, uoff + p, none⟩) hub).trans huc
     have hu3l := lt_of_cell hu3
     have hp1 : ((p : Nat) : Int) < (nc.length : Int) := by omega
     have hp0 : (0 : Int) ≤ ((p : Nat) : Int) := by omega
     have hUI := hid hui
     have hwp : IntKind.i64.wrap ((p : Nat) : Int) = ((p : Nat) : Int) := by rw [IntKind.wrap_i64]; omega
     clear hqp huc huv hub hui
     generalize nc[p] = u at *
     have hA : ∃ gc, AC = some ⟨gc, 0, none⟩ ∧ w1.heap.size ≤ gc := by
      rcases HW3.out.2.2.1.2 with ⟨_, h0⟩ | ⟨gc, c', cur', hv, hge, _⟩
      ·omega
      ·injection hv with hv; exact ⟨gc, hv, hge⟩
     obtain ⟨gc, rfl, hgc⟩ := hA
     have hcs : (c.map (Value.int .i64))[fi]? = some (.int .i64 (c.getD fi 0)) := by
      have hcl := HB.out.2.2.2.2
      rw [List.getElem?_map, List.getElem?_eq_getElem (by omega)]; simp [List.getD_eq_getElem?_getD, show fi < c.length by omega]
     obtain ⟨hcx, hcf⟩ := own_cell1 HW3.out.2.2.1 hcs
     have hcxl := lt_of_cell hcx
     have hlt3 := (HB.out.2.2.1.lt gc rfl).2
     have HSET := hid (own_set1 (show w3.drew.ownsRow w1.heap.size 3 1 (.slice (some ⟨gc, 0, none⟩) ds.length ccap) ds.length (c.map (.int .i64)) from HW3.out.2.2.1) fi (.int .i64 u))
     have hks : Keeps (fun b => b ≠ gc) w3 (w3.drew.setCell ⟨gc, fi, none⟩ (.int .i64 u)) := (Keeps.refl _ _).drew.setCell (fun _ h => h rfl) _
     have hs3 := HW3.out.2.1.size
     have hbox := HW1.out.1.lt
     have HNEW := hid (And.intro (HW3.out.1.keep hks (by omega)) (And.intro (show Below w.heap.size w (w3.drew.setCell ⟨gc, fi, none⟩ (.int .i64 u)) from HW3.out.2.1.trans ⟨hks.os, hks.tape, hks.output, hks.size, fun b hb => hks.block b (by omega) (by omega)⟩) (HW3.out.2.2.2.keep hks (by omega))))
     have hk3 : kb ≠ gc := by omega
     have k3 := hks.cell (p := ⟨kb, koff + (p + 1), none⟩) hk3 ((HW3.out.2.1.cell (p := ⟨kb, koff + (p + 1), none⟩) hkb).trans hkc)
     have HK3 := hid k3
     go_wp2
     refine wp_region_S 10 (fun W => W.cell? ⟨wv.heap.size, 1, none⟩ = some (.int .i64 (fi : Int)) ∧ W.cell? ⟨wv.heap.size, 2, none⟩ = some (.slice (some ⟨ub, uoff, none⟩) nc.length vcap) ∧ W.cell? ⟨ub, uoff + p, none⟩ = some (.int .i64 u)) (by kernel_rfl) ?_
     have hS : (fun W : World => W.cell? ⟨wv.heap.size, 1, none⟩ = some (.int .i64 (fi : Int)) ∧ W.cell? ⟨wv.heap.size, 2, none⟩ = some (.slice (some ⟨ub, uoff, none⟩) nc.length vcap) ∧ W.cell? ⟨ub, uoff + p, none⟩ = some (.int .i64 u)) w3.drew := ⟨n1, n2, hu3⟩
     have hcx6 : w3.drew.cell? ⟨gc, fi, none⟩ = some (.int .i64 (c.getD fi 0)) := hcx
     have hcf6 : w3.drew.frozen? ⟨gc, fi, none⟩ = false := hcf
     have hcl6 : gc < w3.drew.heap.size := hcxl
     clear hcx hcf hcxl n1 n2 n3 n1l hu3 hu3l k3 hks hcs
     generalize w3.drew = w6 at *
     (refine wpAnyS_take0 (i := 0) (v := ?_) rfl (by kernel_rfl) (by kernel_rfl) (fun _ _ _ h => h) (Or.inl ⟨by rfl, ?_⟩) (Or.inr hS) ?_; rotate_left; (intro w hSw; clear hSw; go_simp; (try with_reducible rfl)); ((try simp only [Act.put]); (try simp only [nrA]); (try simp only [nrB]); (try simp only [nrC])))
     (refine wpAnyS_take0 (i := 1) (v := ?_) rfl (by kernel_rfl) (by kernel_rfl) (fun _ _ _ h => h) (Or.inl ⟨by rfl, ?_⟩) (Or.inr hS) ?_; rotate_left; (intro w hSw; clear hSw; go_simp; (try with_reducible rfl)); ((try simp only [Act.put]); (try simp only [nrA]); (try simp only [nrB]); (try simp only [nrC])))
     (refine wpAnyS_take (i := 2) (v := ?_) rfl (by kernel_rfl) (by kernel_rfl) (fun _ _ _ h => h) (Or.inl ⟨by rfl, ?_⟩) hS ?_; rotate_left; (intro w hSw; obtain ⟨h1, h2, h3⟩ := hSw; go_simp; (try with_reducible rfl)); ((try simp only [Act.put]); (try simp only [nrA]); (try simp only [nrB]); (try simp only [nrC])))
     (refine wpAnyS_take0 (i := 3) (v := ?_) rfl (by kernel_rfl) (by kernel_rfl) (fun _ _ _ h => h) (Or.inl ⟨by rfl, ?_⟩) (Or.inr hS) ?_; rotate_left; (intro w hSw; clear hSw; go_simp; (try with_reducible rfl)); ((try simp only [Act.put]); (try simp only [nrA]); (try simp only [nrB]); (try simp only [nrC])))
     (refine wpAnyS_take (i := 4) (v := ?_) rfl (by kernel_rfl) (by kernel_rfl) (fun _ _ _ h => h) (Or.inl ⟨by rfl, ?_⟩) hS ?_; rotate_left; (intro w hSw; obtain ⟨h1, h2, h3⟩ := hSw; go_simp; (try with_reducible rfl)); ((try simp only [Act.put]); (try simp only [nrA]); (try simp only [nrB]); (try simp only [nrC])))
     (refine wpAnyS_take0 (i := 5) (v := ?_) rfl (by kernel_rfl) (by kernel_rfl) (fun _ _ _ h => h) (Or.inl ⟨by rfl, ?_⟩) (Or.inr hS) ?_; rotate_left; (intro w hSw; clear hSw; go_simp; (try with_reducible rfl)); ((try simp only [Act.put]); (try simp only [nrA]); (try simp only [nrB]); (try simp only [nrC])))
     (refine wpAnyS_take0 (i := 6) (v := ?_) rfl (by kernel_rfl) (by kernel_rfl) (fun _ _ _ h => h) (Or.inl ⟨by rfl, ?_⟩) (Or.inr hS) ?_; rotate_left; (intro w hSw; clear hSw; go_simp; (try with_reducible rfl)); ((try simp only [Act.put]); (try simp only [nrA]); (try simp only [nrB]); (try simp only [nrC])))
     (refine wpAnyS_take0 (i := 7) (v := ?_) rfl (by kernel_rfl) (by kernel_rfl) (fun _ _ _ h => h) (Or.inl ⟨by rfl, ?_⟩) (Or.inr hS) ?_; rotate_left; (intro w hSw; clear hSw; go_simp; (try with_reducible rfl)); ((try simp only [Act.put]); (try simp only [nrA]); (try simp only [nrB]); (try simp only [nrC])))
     (refine wpAnyS_take (i := 8) (v := ?_) rfl (by kernel_rfl) (by kernel_rfl) (fun _ _ _ h => h) (Or.inl ⟨by rfl, ?_⟩) hS ?_; rotate_left; (intro w hSw; obtain ⟨h1, h2, h3⟩ := hSw; go_simp; (try with_reducible rfl)); ((try simp only [Act.put]); (try simp only [nrA]); (try simp only [nrB]); (try simp only [nrC])))
     (refine wpAnyS_take0 (i := 9) (v := ?_) rfl (by kernel_rfl) (by kernel_rfl) (fun _ _ _ h => h) (Or.inl ⟨by rfl, ?_⟩) (Or.inr hS) ?_; rotate_left; (intro w hSw; clear hSw; go_simp; (try with_reducible rfl)); ((try simp only [Act.put]); (try simp only [nrA]); (try simp only [nrB]); (try simp only [nrC])))
     refine wpAnyS_one (i := 10) (by kernel_rfl) rfl rfl (fun K hK => ?_)
     go_wp2_with fail
     refine hK _ _ (Or.inl rfl) ?_
     clear hK K hS hcx6 hcf6 hcl6
     ((try simp only [Act.put]); (try simp only [nrA]); (try simp only [nrB]); (try simp only [nrC]))
     refine wpAnyS_done (by kernel_rfl) ?_ _
     have n3 : (w6.setCell ⟨gc, fi, none⟩ (.int .i64 u)).cell? ⟨wv.heap.size, 3, none⟩ = some (.slice (some ⟨kb, koff, none⟩) nk.length kcap) := HNEW.out.2.2.cell 3
     have n3l := HNEW.out.2.2.lt
     have k3 := HK3.out
     have k3l := lt_of_cell k3
     generalize w6.setCell ⟨gc, fi, none⟩ (.int .i64 u) = w7 at *
     go_wp2
     go_roundw
     case rel =>
      refine ⟨kx, c.set fi u, m, rfl, HRK2.out.1, by have h1 := HRK2.out.2.1; have h2 := HRK2.out.2.2; omega, by rw [List.length_set]; exact HB.out.2.2.2.2, ?_, HNEW.out.1, HNEW.out.2.1, fun y hy => ?_, HR⟩
      ·have h := HSET.out
       rw [List.map_set]
       exact h
      ·rcases List.mem_or_eq_of_mem_set hy with hy | rfl
       ·exact HB.out.2.2.2.1 y hy
       ·exact hUI.out
     case measure =>
      have h1 := HRK2.out.2.1
      simpa [intOf] using h1
    ·obtain rfl : q = 0 := by omega
     rw [if_neg (by omega)] at HR
     have k3 := (HW3.out.2.1.cell (p := ⟨kb, koff + 0, none⟩) hkb).trans hkc
     rw [Nat.add_zero] at k3
     have k3l := lt_of_cell k3
     clear hqp hkc
     go_wp2
     go_roundw
     case rel => exact ⟨kx, c, m, rfl, HRK2.out.1, by have h1 := HRK2.out.2.1; have h2 := HRK2.out.2.2; omega, HB.out.2.2.2.2, HW3.out.2.2.1, HW3.out.1, HW3.out.2.1, HB.out.2.2.2.1, HR⟩
     case measure =>
      have h1 := HRK2.out.2.1
      simpa [intOf] using h1
 ·have hv' : validS ds g = false := by simpa using hv
  rw [hv'] at HV
  have HR := hid (HU.out.trans (if_neg hv))
  clear hv hv' HU
  go_wp2_with fail
  refine HV.out.mono ?_
  rintro e w1 ⟨rfl, hb1⟩
  have hbw := HB2.out.trans (hb1.mono HB2.out.size)
  go_wp2
  refine bodyPost_ret (v := .tuple #[.slice none 0 0, .bool false]) (by simp [results, Tryz.results20, go_sem]) rfl ?_
  rw [HR.out]
  exact ⟨_, rfl, Ints.nil _ _, hbw⟩
end Go.Proofs.YtcigjmlileckhaaGreatDoor
