/- The walk of DiagramEquals (printed by mkW83.py). DiagramEquals: for every two formulas, domain and case, whatever they are: the law returns true, and the arguments read behind the call as before it. Conditions: the row's own (the listed variables of Go's library read as its text lays them: the card ties them). -/
import Derived.Test.YtcigjmlileckhaaGreatDoorM47
import Derived.Test.YtcigjmlileckhaaGreatDoorM35
import Derived.Test.YtcigjmlileckhaaGreatDoorM4
import Derived.Test.YtcigjmlileckhaaGreatDoorCards
import Derived.Test.YtcigjmlileckhaaGreatDoorTie
import Derived.SevenTiedAt
/- The walk of DiagramEquals (printed by mkW83.py). -/
namespace Go.Proofs.YtcigjmlileckhaaGreatDoor
open Go.RowKit
theorem and_new {va vb vd : Value} {a b g : List NodeD} {n : Int} {ds : List FactD} {w : World} (ha : Nodes (fun _ => True) w va a) (hb : Nodes (fun _ => True) w vb b) (hd : Facts (fun b => b < w.heap.size) w vd ds) (htab : TabB w.heap.size w) (h : andS ds a b = (g, n)) :
  Calls Tryz.prog 24 #[.agg #[va], .agg #[vb], .agg #[vd]] w fun e w' => ∃ A cap, e = .returned (.tuple #[.agg #[.slice A g.length cap], .int .i64 n]) ∧ Nodes (fun b => w.heap.size ≤ b) w' (.slice A g.length cap) g ∧ Below w.heap.size w w' :=
 (and_any (fun b => b < w.heap.size) va vb vd a b ds w ha.here hb.here hd (fun _ h => h) htab).mono fun e w' hp => by
  rw [h] at hp
  obtain ⟨v, rfl, hn, hb⟩ := hp
  obtain ⟨A, cap, e, -, -, -⟩ := hn.open_
  simp only at e
  subst e
  exact ⟨A, cap, rfl, hn.mono (fun b h => h.elim False.elim id), hb⟩
theorem same_gen {v v' : Value} {a b : List NodeD} {r : Bool} {w : World} (ha : Nodes (fun _ => True) w v a) (hb : Nodes (fun _ => True) w v' b) (h : decide (a = b) = r) :
  Calls Tryz.prog 31 #[.agg #[v], .agg #[v']] w fun e w' => e = .returned (.bool r) ∧ Below w.heap.size w w' := by
 have := dsame_any _ _ v v' a b w ha hb
 rwa [h] at this
set_option maxRecDepth 100000 in
set_option maxHeartbeats 16000000 in
theorem equals_any (Z : Zone) (f h : Fm) (cs cs' : List Value) (vd vc : Value) (ds : List FactD) (c : List Int) (w : World) (hf : FmR Z w f cs) (hh : FmR Z w h cs') (hd : Facts Z w vd ds) (hc : Ints Z w vc c) (hz : ∀ b, Z b → b < w.heap.size) (htab : TabB w.heap.size w) :
  Calls Tryz.prog 9 #[.agg cs.toArray, .agg cs'.toArray, .agg #[vd], vc] w fun e w' => e = .returned (.bool true) ∧ Below w.heap.size w w' := by
 obtain ⟨A, cap, rfl⟩ := FmR.form hf
 obtain ⟨B, bcap, rfl⟩ := FmR.form hh
 obtain ⟨D, dcap, hvd, -, -, -⟩ := hd.open_
 subst hvd
 obtain ⟨C, ccap, hvc, -⟩ := hc.form
 subst hvc
 have HL := hid (Jw.start hf hh hd hc hz htab)
 clear hf hh hd hc hz htab
 go_enter Tryz.func9, Tryz.ntmps9
 go_wp2_with fail
 refine (head_any _ HL.out.tab).mono ?_
 rintro e w1 ⟨rfl, hb⟩
 replace HL := hid (HL.out.on hb)
 clear hb
 obtain ⟨f0, f1, f2, f3, f4, fl, g0, g1, g2, g3, g4, gl, d0, dl⟩ := HL.out.cells
 go_wp2_with fail
 refine (pair_any Z f h _ _ _ ds w1 HL.out.fm HL.out.gm HL.out.fs HL.out.zone HL.out.tab).mono ?_
 rintro e w2 ⟨hb, ⟨h1, h1', h2, h2', GA, gl1, gcap, GA', gl2, gcap', rfl, hn, hn'⟩ | ⟨GA, gl1, gcap, GA', gl2, gcap', rfl⟩⟩
 ·have hg1 : gl1 = (buildS ds f).1.length := by obtain ⟨_, _, e, -⟩ := hn.open_; injection e
  have hg2 : gl2 = (buildS ds h).1.length := by obtain ⟨_, _, e, -⟩ := hn'.open_; injection e
  subst hg1 hg2
  have hb' : Below w2.heap.size w2 ((w2.alloc (.cells #[.slice GA (buildS ds f).1.length gcap] 34)).alloc (.cells #[.slice GA' (buildS ds h).1.length gcap'] 34)) := below2 w2 _ _
  have HA := hid ((Dgm.new hn).on (below1 _ (.cells #[.slice GA' (buildS ds h).1.length gcap'] 34)))
  have HB := hid (Dgm.new (hn'.keep (.of_below (below1 w2 (.cells #[.slice GA (buildS ds f).1.length gcap] 34)))))
  rw [World.size_alloc] at HB
  replace HL := hid (HL.out.on (hb.trans (hb'.mono hb.size)))
  have S1 := hid h1
  have S2 := hid h1'
  have HBF := hid (show buildS ds f = ((buildS ds f).1, 0) from Prod.ext rfl h2)
  have HBH := hid (show buildS ds h = ((buildS ds h).1, 0) from Prod.ext rfl h2')
  clear h1 h1' h2 h2' hn hn' hb hb' f0 f1 f2 f3 f4 fl g0 g1 g2 g3 g4 gl d0 dl
  generalize (buildS ds f).1 = a at *
  generalize (buildS ds h).1 = b at *
  go_upto_region 3 with fail
  generalize (w2.alloc (.cells #[.slice GA a.length gcap] 34)).alloc (.cells #[.slice GA' b.length gcap'] 34) = w3 at *
  generalize w2.heap.size = ba at *
  obtain ⟨x, n, HX0⟩ : ∃ x n, Hid (andS ds a (notD b) = (x, n)) := ⟨(andS ds a (notD b)).1, (andS ds a (notD b)).2, hid rfl⟩
  obtain ⟨y, m, HY0⟩ : ∃ y m, Hid (andS ds b (notD a) = (y, m)) := ⟨(andS ds b (notD a)).1, (andS ds b (notD a)).2, hid rfl⟩
  have HE := hid (show n = 0 ∨ (n = 2 ∧ 4000 < a.length * b.length) from by
   by_cases e : n = 0
   ·exact Or.inl e
   ·have := eq_err HBF.out HBH.out (by rw [HX0.out]; exact e)
    rw [HX0.out] at this
    exact Or.inr ⟨(Prod.mk.inj this.1).2, this.2⟩)
  have HG := hid (show m = 0 ∨ (m = 2 ∧ 4000 < a.length * b.length) from by
   by_cases e : m = 0
   ·exact Or.inl e
   ·have := eq_err HBH.out HBF.out (by rw [HY0.out]; exact e)
    rw [HY0.out] at this
    exact Or.inr ⟨(Prod.mk.inj this.1).2, by rw [Nat.mul_comm]; exact this.2⟩)
  have cHA : w3.cell? ⟨ba, 0, none⟩ = some (.slice GA a.length gcap) := HA.out.box.cell 0
  have lHA : ba < w3.heap.size := HA.out.box.lt
  have cHB : w3.cell? ⟨ba + 1, 0, none⟩ = some (.slice GA' b.length gcap') := HB.out.box.cell 0
  have lHB : ba + 1 < w3.heap.size := HB.out.box.lt
  by_cases hab : a = b
  ·have HAB := hid hab
   clear hab
   go_wp2_with fail
   refine (same_gen HA.out.nod HB.out.nod (decide_eq_true HAB.out)).mono ?_
   rintro e w4 ⟨rfl, hb⟩
   replace HL := hid (HL.out.on hb)
   clear hb cHA lHA cHB lHB
   go_upto_region 6 with fail
   have HFT := hid (fun W (hd : Facts Z W (.slice D ds.length dcap) ds) (hc : Ints Z W (.slice C c.length ccap) c) => factFits_any Z (.slice D ds.length dcap) (.slice C c.length ccap) ds c W hd hc)
   have HC := hid (fun (W : World) (hW : Below w4.heap.size w4 W) => (show W.cell? ⟨w.heap.size, 0, none⟩ = some (.int .i64 f.op) ∧ W.cell? ⟨w.heap.size, 1, none⟩ = some (.string f.name) ∧ W.cell? ⟨w.heap.size, 2, none⟩ = some (.int .i64 f.cmp) ∧ W.cell? ⟨w.heap.size, 3, none⟩ = some (.int .i64 f.num) ∧ W.cell? ⟨w.heap.size, 4, none⟩ = some (.slice A f.kids.length cap) ∧ W.cell? ⟨w.heap.size + 1, 0, none⟩ = some (.int .i64 h.op) ∧ W.cell? ⟨w.heap.size + 1, 1, none⟩ = some (.string h.name) ∧ W.cell? ⟨w.heap.size + 1, 2, none⟩ = some (.int .i64 h.cmp) ∧ W.cell? ⟨w.heap.size + 1, 3, none⟩ = some (.int .i64 h.num) ∧ W.cell? ⟨w.heap.size + 1, 4, none⟩ = some (.slice B h.kids.length bcap) ∧ W.cell? ⟨w.heap.size + 1 + 1, 0, none⟩ = some (.slice D ds.length dcap) from by
    have h := HL.out.on hW
    exact ⟨h.fb.cell 0, h.fb.cell 1, h.fb.cell 2, h.fb.cell 3, h.fb.cell 4, h.gb.cell 0, h.gb.cell 1, h.gb.cell 2, h.gb.cell 3, h.gb.cell 4, h.db.cell 0⟩))
   by_cases hft : fits ds c = true
   ·rw [hft] at HFT
    have HEQ := hid (eq_same HBF.out (by rw [HBH.out, HAB.out]) hft)
    clear hft
    have HHF := hid (fun W (hW : Below w4.heap.size w4 W) => holds_any Z (.slice D ds.length dcap) (.slice C c.length ccap) ds c f _ W (HL.out.on hW).fm (HL.out.on hW).fs (HL.out.on hW).ci (by have := small_size S1.out; omega) (HL.out.on hW).zone)
    have HHG := hid (fun W (hW : Below w4.heap.size w4 W) => holds_any Z (.slice D ds.length dcap) (.slice C c.length ccap) ds c h _ W (HL.out.on hW).gm (HL.out.on hW).fs (HL.out.on hW).ci (by have := small_size S2.out; omega) (HL.out.on hW).zone)
    rw [← HEQ.out] at HHG
    generalize holdsS ds c f = bb at *
    clear HEQ
    refine wp_region_S 18 (fun W => Below w4.heap.size w4 W) (by kernel_rfl) ?_
    have hS : (fun W => Below w4.heap.size w4 W) w4.drew := (Below.refl _ _).drew
    (refine wpAnyS_take0 (i := 0) (v := ?_) rfl (by kernel_rfl) (by kernel_rfl) (fun _ _ _ h => h) (Or.inl ⟨by kernel_rfl, ?_⟩) (Or.inr hS) ?_; rotate_left; (intro w hSw; clear hSw; go_simp; (try with_reducible rfl)); ((try simp only [Act.put]); (try simp only [nrA]); (try simp only [nrB]); (try simp only [nrC])))
    (refine wpAnyS_take0 (i := 1) (v := ?_) rfl (by kernel_rfl) (by kernel_rfl) (fun _ _ _ h => h) (Or.inl ⟨by kernel_rfl, ?_⟩) (Or.inr hS) ?_; rotate_left; (intro w hSw; clear hSw; go_simp; (try with_reducible rfl)); ((try simp only [Act.put]); (try simp only [nrA]); (try simp only [nrB]); (try simp only [nrC])))
    (refine wpAnyS_take (i := 2) (v := ?_) rfl (by kernel_rfl) (by kernel_rfl) (fun _ _ _ h => h) (Or.inl ⟨by kernel_rfl, ?_⟩) hS ?_; rotate_left; (intro w hSw; have hkw := hSw; obtain ⟨f0, f1, f2, f3, f4, g0, g1, g2, g3, g4, d0⟩ := HC.out _ hkw; clear hkw; go_simp; (try with_reducible rfl)); ((try simp only [Act.put]); (try simp only [nrA]); (try simp only [nrB]); (try simp only [nrC])))
    (refine wpAnyS_take0 (i := 3) (v := ?_) rfl (by kernel_rfl) (by kernel_rfl) (fun _ _ _ h => h) (Or.inl ⟨by kernel_rfl, ?_⟩) (Or.inr hS) ?_; rotate_left; (intro w hSw; clear hSw; go_simp; (try with_reducible rfl)); ((try simp only [Act.put]); (try simp only [nrA]); (try simp only [nrB]); (try simp only [nrC])))
    refine wpAnyS_oneG (i := 4) (by kernel_rfl) rfl (by kernel_rfl) (fun K hK => ?_)
    go_wp2_with fail
    refine (HFT.out _ (HL.out.fs.keep (Keeps.of_below hS)) (HL.out.ci.keep (Keeps.of_below hS))).mono ?_
    rintro e w5 ⟨rfl, hb⟩
    have hb6 : Below w4.heap.size w4 w5 := hS.trans (hb.mono hS.size)
    refine hK _ _ (Or.inr hb6) ?_
    clear hK K hb hS
    ((try simp only [Act.put]); (try simp only [nrA]); (try simp only [nrB]); (try simp only [nrC]))
    have hS : (fun W => Below w4.heap.size w4 W) w5 := hb6
    clear hb6
    (refine wpAnyS_take0 (i := 5) (v := ?_) rfl (by kernel_rfl) (by kernel_rfl) (fun _ _ _ h => h) (Or.inl ⟨by kernel_rfl, ?_⟩) (Or.inr hS) ?_; rotate_left; (intro w hSw; clear hSw; go_simp; (try with_reducible rfl)); ((try simp only [Act.put]); (try simp only [nrA]); (try simp only [nrB]); (try simp only [nrC])))
    (refine wpAnyS_take0 (i := 6) (v := ?_) rfl (by kernel_rfl) (by kernel_rfl) (fun _ _ _ h => h) (Or.inl ⟨by kernel_rfl, ?_⟩) (Or.inr hS) ?_; rotate_left; (intro w hSw; clear hSw; go_simp; (try with_reducible rfl)); ((try simp only [Act.put]); (try simp only [nrA]); (try simp only [nrB]); (try simp only [nrC])))
    change wpAnyS _ _ _ _ _ _ _ _ (Act.mk _ _) _
    ((try simp only [Act.put]); (try simp only [nrA]); (try simp only [nrB]); (try simp only [nrC]))
    (refine wpAnyS_take (i := 7) (v := ?_) rfl (by kernel_rfl) (by kernel_rfl) (fun _ _ _ h => h) (Or.inl ⟨by kernel_rfl, ?_⟩) hS ?_; rotate_left; (intro w hSw; have hkw := hSw; obtain ⟨f0, f1, f2, f3, f4, g0, g1, g2, g3, g4, d0⟩ := HC.out _ hkw; clear hkw; go_simp; (try with_reducible rfl)); ((try simp only [Act.put]); (try simp only [nrA]); (try simp only [nrB]); (try simp only [nrC])))
    (refine wpAnyS_take (i := 8) (v := ?_) rfl (by kernel_rfl) (by kernel_rfl) (fun _ _ _ h => h) (Or.inl ⟨by kernel_rfl, ?_⟩) hS ?_; rotate_left; (intro w hSw; have hkw := hSw; obtain ⟨f0, f1, f2, f3, f4, g0, g1, g2, g3, g4, d0⟩ := HC.out _ hkw; clear hkw; go_simp; (try with_reducible rfl)); ((try simp only [Act.put]); (try simp only [nrA]); (try simp only [nrB]); (try simp only [nrC])))
    (refine wpAnyS_take0 (i := 9) (v := ?_) rfl (by kernel_rfl) (by kernel_rfl) (fun _ _ _ h => h) (Or.inl ⟨by kernel_rfl, ?_⟩) (Or.inr hS) ?_; rotate_left; (intro w hSw; clear hSw; go_simp; (try with_reducible rfl)); ((try simp only [Act.put]); (try simp only [nrA]); (try simp only [nrB]); (try simp only [nrC])))
    (refine wpAnyS_take (i := 11) (v := ?_) rfl (by kernel_rfl) (by kernel_rfl) (fun _ _ _ h => h) (Or.inl ⟨by kernel_rfl, ?_⟩) hS ?_; rotate_left; (intro w hSw; have hkw := hSw; obtain ⟨f0, f1, f2, f3, f4, g0, g1, g2, g3, g4, d0⟩ := HC.out _ hkw; clear hkw; go_simp; (try with_reducible rfl)); ((try simp only [Act.put]); (try simp only [nrA]); (try simp only [nrB]); (try simp only [nrC])))
    (refine wpAnyS_take (i := 12) (v := ?_) rfl (by kernel_rfl) (by kernel_rfl) (fun _ _ _ h => h) (Or.inl ⟨by kernel_rfl, ?_⟩) hS ?_; rotate_left; (intro w hSw; have hkw := hSw; obtain ⟨f0, f1, f2, f3, f4, g0, g1, g2, g3, g4, d0⟩ := HC.out _ hkw; clear hkw; go_simp; (try with_reducible rfl)); ((try simp only [Act.put]); (try simp only [nrA]); (try simp only [nrB]); (try simp only [nrC])))
    (refine wpAnyS_take0 (i := 13) (v := ?_) rfl (by kernel_rfl) (by kernel_rfl) (fun _ _ _ h => h) (Or.inl ⟨by kernel_rfl, ?_⟩) (Or.inr hS) ?_; rotate_left; (intro w hSw; clear hSw; go_simp; (try with_reducible rfl)); ((try simp only [Act.put]); (try simp only [nrA]); (try simp only [nrB]); (try simp only [nrC])))
    refine wpAnyS_oneG (i := 10) (by kernel_rfl) rfl (by kernel_rfl) (fun K hK => ?_)
    go_wp2_with fail
    refine (HHF.out _ hS).mono ?_
    rintro e w6 ⟨rfl, hb⟩
    have hb6 : Below w4.heap.size w4 w6 := hS.trans (hb.mono hS.size)
    refine hK _ _ (Or.inr hb6) ?_
    clear hK K hb hS
    ((try simp only [Act.put]); (try simp only [nrA]); (try simp only [nrB]); (try simp only [nrC]))
    have hS : (fun W => Below w4.heap.size w4 W) w6 := hb6
    clear hb6
    refine wpAnyS_oneG (i := 14) (by kernel_rfl) rfl (by kernel_rfl) (fun K hK => ?_)
    go_wp2_with fail
    refine (HHG.out _ hS).mono ?_
    rintro e w7 ⟨rfl, hb⟩
    have hb6 : Below w4.heap.size w4 w7 := hS.trans (hb.mono hS.size)
    refine hK _ _ (Or.inr hb6) ?_
    clear hK K hb hS
    ((try simp only [Act.put]); (try simp only [nrA]); (try simp only [nrB]); (try simp only [nrC]))
    have hS : (fun W => Below w4.heap.size w4 W) w7 := hb6
    clear hb6
    (refine wpAnyS_take0 (i := 15) (v := ?_) rfl (by kernel_rfl) (by kernel_rfl) (fun _ _ _ h => h) (Or.inl ⟨by kernel_rfl, ?_⟩) (Or.inr hS) ?_; rotate_left; (intro w hSw; clear hSw; go_simp; (try with_reducible rfl)); ((try simp only [Act.put]); (try simp only [nrA]); (try simp only [nrB]); (try simp only [nrC])))
    (refine wpAnyS_take0 (i := 16) (v := ?_) rfl (by kernel_rfl) (by kernel_rfl) (fun _ _ _ h => h) (Or.inl ⟨by kernel_rfl, ?_⟩) (Or.inr hS) ?_; rotate_left; (intro w hSw; clear hSw; go_simp; (try with_reducible rfl)); ((try simp only [Act.put]); (try simp only [nrA]); (try simp only [nrB]); (try simp only [nrC])))
    (refine wpAnyS_take0 (i := 17) (v := ?_) rfl (by kernel_rfl) (by kernel_rfl) (fun _ _ _ h => h) (Or.inl ⟨by kernel_rfl, ?_⟩) (Or.inr hS) ?_; rotate_left; (intro w hSw; clear hSw; go_simp; (try with_reducible rfl)); ((try simp only [Act.put]); (try simp only [nrA]); (try simp only [nrB]); (try simp only [nrC])))
    refine wpAnyS_one (i := 18) (by kernel_rfl) rfl rfl (fun K hK => ?_)
    go_wp2_with fail
    refine hK _ _ (Or.inl rfl) ?_
    clear hK K
    ((try simp only [Act.put]); (try simp only [nrA]); (try simp only [nrB]); (try simp only [nrC]))
    refine wpAnyS_done (by kernel_rfl) ?_ _
    replace HL := hid (HL.out.on hS)
    clear hS
    go_wp2_with fail
    exact bodyPost_ret (v := .bool true) (by simp [results, Tryz.results9, go_sem]) rfl ⟨rfl, HL.out.below⟩
   ·have hft : fits ds c = false := by simpa using hft
    rw [hft] at HFT
    clear hft
    refine wp_region_S 18 (fun W => Below w4.heap.size w4 W) (by kernel_rfl) ?_
    have hS : (fun W => Below w4.heap.size w4 W) w4.drew := (Below.refl _ _).drew
    (refine wpAnyS_take0 (i := 0) (v := ?_) rfl (by kernel_rfl) (by kernel_rfl) (fun _ _ _ h => h) (Or.inl ⟨by kernel_rfl, ?_⟩) (Or.inr hS) ?_; rotate_left; (intro w hSw; clear hSw; go_simp; (try with_reducible rfl)); ((try simp only [Act.put]); (try simp only [nrA]); (try simp only [nrB]); (try simp only [nrC])))
    (refine wpAnyS_take0 (i := 1) (v := ?_) rfl (by kernel_rfl) (by kernel_rfl) (fun _ _ _ h => h) (Or.inl ⟨by kernel_rfl, ?_⟩) (Or.inr hS) ?_; rotate_left; (intro w hSw; clear hSw; go_simp; (try with_reducible rfl)); ((try simp only [Act.put]); (try simp only [nrA]); (try simp only [nrB]); (try simp only [nrC])))
    (refine wpAnyS_take (i := 2) (v := ?_) rfl (by kernel_rfl) (by kernel_rfl) (fun _ _ _ h => h) (Or.inl ⟨by kernel_rfl, ?_⟩) hS ?_; rotate_left; (intro w hSw; have hkw := hSw; obtain ⟨f0, f1, f2, f3, f4, g0, g1, g2, g3, g4, d0⟩ := HC.out _ hkw; clear hkw; go_simp; (try with_reducible rfl)); ((try simp only [Act.put]); (try simp only [nrA]); (try simp only [nrB]); (try simp only [nrC])))
    (refine wpAnyS_take0 (i := 3) (v := ?_) rfl (by kernel_rfl) (by kernel_rfl) (fun _ _ _ h => h) (Or.inl ⟨by kernel_rfl, ?_⟩) (Or.inr hS) ?_; rotate_left; (intro w hSw; clear hSw; go_simp; (try with_reducible rfl)); ((try simp only [Act.put]); (try simp only [nrA]); (try simp only [nrB]); (try simp only [nrC])))
    refine wpAnyS_oneG (i := 4) (by kernel_rfl) rfl (by kernel_rfl) (fun K hK => ?_)
    go_wp2_with fail
    refine (HFT.out _ (HL.out.fs.keep (Keeps.of_below hS)) (HL.out.ci.keep (Keeps.of_below hS))).mono ?_
    rintro e w5 ⟨rfl, hb⟩
    have hb6 : Below w4.heap.size w4 w5 := hS.trans (hb.mono hS.size)
    refine hK _ _ (Or.inr hb6) ?_
    clear hK K hb hS
    ((try simp only [Act.put]); (try simp only [nrA]); (try simp only [nrB]); (try simp only [nrC]))
    have hS : (fun W => Below w4.heap.size w4 W) w5 := hb6
    clear hb6
    (refine wpAnyS_take0 (i := 5) (v := ?_) rfl (by kernel_rfl) (by kernel_rfl) (fun _ _ _ h => h) (Or.inl ⟨by kernel_rfl, ?_⟩) (Or.inr hS) ?_; rotate_left; (intro w hSw; clear hSw; go_simp; (try with_reducible rfl)); ((try simp only [Act.put]); (try simp only [nrA]); (try simp only [nrB]); (try simp only [nrC])))
    (refine wpAnyS_take0 (i := 6) (v := ?_) rfl (by kernel_rfl) (by kernel_rfl) (fun _ _ _ h => h) (Or.inl ⟨by kernel_rfl, ?_⟩) (Or.inr hS) ?_; rotate_left; (intro w hSw; clear hSw; go_simp; (try with_reducible rfl)); ((try simp only [Act.put]); (try simp only [nrA]); (try simp only [nrB]); (try simp only [nrC])))
    change wpAnyS _ _ _ _ _ _ _ _ (Act.mk _ _) _
    ((try simp only [Act.put]); (try simp only [nrA]); (try simp only [nrB]); (try simp only [nrC]))
    refine wpAnyS_skip (i := 7) rfl (by kernel_rfl) (by kernel_rfl) (fun _ _ _ h => h) (by kernel_rfl) (by kernel_rfl) (Or.inr hS) ?_
    refine wpAnyS_skip (i := 8) rfl (by kernel_rfl) (by kernel_rfl) (fun _ _ _ h => h) (by kernel_rfl) (by kernel_rfl) (Or.inr hS) ?_
    refine wpAnyS_skip (i := 9) rfl (by kernel_rfl) (by kernel_rfl) (fun _ _ _ h => h) (by kernel_rfl) (by kernel_rfl) (Or.inr hS) ?_
    refine wpAnyS_skip (i := 11) rfl (by kernel_rfl) (by kernel_rfl) (fun _ _ _ h => h) (by kernel_rfl) (by kernel_rfl) (Or.inr hS) ?_
    refine wpAnyS_skip (i := 12) rfl (by kernel_rfl) (by kernel_rfl) (fun _ _ _ h => h) (by kernel_rfl) (by kernel_rfl) (Or.inr hS) ?_
    refine wpAnyS_skip (i := 13) rfl (by kernel_rfl) (by kernel_rfl) (fun _ _ _ h => h) (by kernel_rfl) (by kernel_rfl) (Or.inr hS) ?_
    refine wpAnyS_skip (i := 10) rfl (by kernel_rfl) (by kernel_rfl) (fun _ _ _ h => h) (by kernel_rfl) (by kernel_rfl) (Or.inr hS) ?_
    refine wpAnyS_skip (i := 14) rfl (by kernel_rfl) (by kernel_rfl) (fun _ _ _ h => h) (by kernel_rfl) (by kernel_rfl) (Or.inr hS) ?_
    refine wpAnyS_skip (i := 15) rfl (by kernel_rfl) (by kernel_rfl) (fun _ _ _ h => h) (by kernel_rfl) (by kernel_rfl) (Or.inr hS) ?_
    (refine wpAnyS_take0 (i := 16) (v := ?_) rfl (by kernel_rfl) (by kernel_rfl) (fun _ _ _ h => h) (Or.inl ⟨by kernel_rfl, ?_⟩) (Or.inr hS) ?_; rotate_left; (intro w hSw; clear hSw; go_simp; (try with_reducible rfl)); ((try simp only [Act.put]); (try simp only [nrA]); (try simp only [nrB]); (try simp only [nrC])))
    (refine wpAnyS_take0 (i := 17) (v := ?_) rfl (by kernel_rfl) (by kernel_rfl) (fun _ _ _ h => h) (Or.inl ⟨by kernel_rfl, ?_⟩) (Or.inr hS) ?_; rotate_left; (intro w hSw; clear hSw; go_simp; (try with_reducible rfl)); ((try simp only [Act.put]); (try simp only [nrA]); (try simp only [nrB]); (try simp only [nrC])))
    refine wpAnyS_one (i := 18) (by kernel_rfl) rfl rfl (fun K hK => ?_)
    go_wp2_with fail
    refine hK _ _ (Or.inl rfl) ?_
    clear hK K
    ((try simp only [Act.put]); (try simp only [nrA]); (try simp only [nrB]); (try simp only [nrC]))
    refine wpAnyS_done (by kernel_rfl) ?_ _
    replace HL := hid (HL.out.on hS)
    clear hS
    go_wp2_with fail
    exact bodyPost_ret (v := .bool true) (by simp [results, Tryz.results9, go_sem]) rfl ⟨rfl, HL.out.below⟩
  ·have HAB := hid hab
   clear hab
   go_wp2_with fail
   refine (same_gen HA.out.nod HB.out.nod (decide_eq_false HAB.out)).mono ?_
   rintro e w4 ⟨rfl, hb⟩
   replace HL := hid (HL.out.on hb)
   replace HA := hid (HA.out.on hb)
   replace HB := hid (HB.out.on hb)
   clear hb cHA lHA cHB lHB
   go_upto_region 7 with fail
   go_cut [13, 14] from 54 to 61 (fun vp ve wx => ∃ bx A cap, vp = .pointer (some ⟨bx, 0, none⟩) ∧ ve = .int .i64 n ∧ Dgm wx bx A cap x ∧ Below w4.heap.size w4 wx)
   case first =>
    have HNO := hid (fun (W : World) (hW : Below w4.heap.size w4 W) => not_law (HB.out.nod.keep (.of_below hW)))
    have HAN := hid (fun (W : World) (hW : Below w4.heap.size w4 W) (NA : Option Addr) (ncap : Nat) (hn : Nodes (fun _ => True) W (.slice NA (notD b).length ncap) (notD b)) => and_new (HA.out.nod.keep (.of_below hW)) hn ((HL.out.fs.mono HL.out.zone).keep (.of_below hW) |>.mono fun b hb => Nat.lt_of_lt_of_le hb hW.size) ((HL.out.tab.on hW).mono hW.size) HX0.out)
    have HC := hid (fun (W : World) (hW : Below w4.heap.size w4 W) => (show W.cell? ⟨ba, 0, none⟩ = some (.slice GA a.length gcap) ∧ W.cell? ⟨ba + 1, 0, none⟩ = some (.slice GA' b.length gcap') ∧ W.cell? ⟨w.heap.size + 1 + 1, 0, none⟩ = some (.slice D ds.length dcap) from ⟨(HA.out.box.below hW HA.out.box.lt).cell 0, (HB.out.box.below hW HB.out.box.lt).cell 0, (HL.out.db.below hW HL.out.db.lt).cell 0⟩))
    refine wp_region_S 9 (fun W => Below w4.heap.size w4 W) (by kernel_rfl) ?_
    have hB0 : Below w4.heap.size w4 w4.drew := (Below.refl _ _).drew
    have hS : (fun W => Below w4.heap.size w4 W) w4.drew := hB0
    generalize w4.drew = x0 at *
    (refine wpAnyS_take (i := 0) (v := ?_) rfl (by kernel_rfl) (by kernel_rfl) (fun _ _ _ h => h) (Or.inl ⟨by kernel_rfl, ?_⟩) hS ?_; rotate_left; (intro w hSw; have hkw := hSw; obtain ⟨cp, cq, d0⟩ := HC.out _ hkw; clear hkw; go_simp; (try with_reducible rfl)); ((try simp only [Act.put]); (try simp only [nrA]); (try simp only [nrB]); (try simp only [nrC])))
    (refine wpAnyS_take (i := 1) (v := ?_) rfl (by kernel_rfl) (by kernel_rfl) (fun _ _ _ h => h) (Or.inl ⟨by kernel_rfl, ?_⟩) hS ?_; rotate_left; (intro w hSw; have hkw := hSw; obtain ⟨cp, cq, d0⟩ := HC.out _ hkw; clear hkw; go_simp; (try with_reducible rfl)); ((try simp only [Act.put]); (try simp only [nrA]); (try simp only [nrB]); (try simp only [nrC])))
    (refine wpAnyS_take (i := 3) (v := ?_) rfl (by kernel_rfl) (by kernel_rfl) (fun _ _ _ h => h) (Or.inl ⟨by kernel_rfl, ?_⟩) hS ?_; rotate_left; (intro w hSw; have hkw := hSw; obtain ⟨cp, cq, d0⟩ := HC.out _ hkw; clear hkw; go_simp; (try with_reducible rfl)); ((try simp only [Act.put]); (try simp only [nrA]); (try simp only [nrB]); (try simp only [nrC])))
    clear hS
    refine wpAnyS_two (i := 2) (j := 8) (by kernel_rfl) rfl rfl rfl rfl (fun K hK => ?_) (fun K hK => ?_)
    ·go_wp2_with fail
     refine (HNO.out _ hB0).mono ?_
     rintro e x1 ⟨NA, ncap, rfl, hnt, hb⟩
     have hB1 : Below w4.heap.size w4 x1 := hB0.trans (hb.mono hB0.size)
     refine hK _ _ (Or.inr hB1) ?_
     clear hK K hb
     ((try simp only [Act.put]); (try simp only [nrA]); (try simp only [nrB]); (try simp only [nrC]))
     refine wpAnyS_two (i := 4) (j := 8) (by kernel_rfl) rfl rfl rfl rfl (fun K hK => ?_) (fun K hK => ?_)
     ·go_wp2_with fail
      refine (HAN.out _ hB1 _ _ hnt).mono ?_
      rintro e x2 ⟨A, cap, rfl, hN, hb⟩
      clear hnt
      have hB2 : Below w4.heap.size w4 x2 := hB1.trans (hb.mono hB1.size)
      refine hK _ _ (Or.inr hB2) ?_
      clear hK K hb
      ((try simp only [Act.put]); (try simp only [nrA]); (try simp only [nrB]); (try simp only [nrC]))
      have hS : (fun W => Below w4.heap.size w4 W) x2 := hB2
      (refine wpAnyS_take0 (i := 5) (v := ?_) rfl (by kernel_rfl) (by kernel_rfl) (fun _ _ _ h => h) (Or.inl ⟨by kernel_rfl, ?_⟩) (Or.inr hS) ?_; rotate_left; (intro w hSw; clear hSw; go_simp; (try with_reducible rfl)); ((try simp only [Act.put]); (try simp only [nrA]); (try simp only [nrB]); (try simp only [nrC])))
      (refine wpAnyS_take0 (i := 6) (v := ?_) rfl (by kernel_rfl) (by kernel_rfl) (fun _ _ _ h => h) (Or.inl ⟨by kernel_rfl, ?_⟩) (Or.inr hS) ?_; rotate_left; (intro w hSw; clear hSw; go_simp; (try with_reducible rfl)); ((try simp only [Act.put]); (try simp only [nrA]); (try simp only [nrB]); (try simp only [nrC])))
      (refine wpAnyS_take0 (i := 7) (v := ?_) rfl (by kernel_rfl) (by kernel_rfl) (fun _ _ _ h => h) (Or.inl ⟨by kernel_rfl, ?_⟩) (Or.inr hS) ?_; rotate_left; (intro w hSw; clear hSw; go_simp; (try with_reducible rfl)); ((try simp only [Act.put]); (try simp only [nrA]); (try simp only [nrB]); (try simp only [nrC])))
      clear hS
      refine wpAnyS_one (i := 8) (by kernel_rfl) rfl rfl (fun K hK => ?_)
      go_wp2_with fail
      refine hK _ _ (Or.inr (hB2.alloc hB2.size _)) ?_
      clear hK K
      ((try simp only [Act.put]); (try simp only [nrA]); (try simp only [nrB]); (try simp only [nrC]))
      have hB3 : Below w4.heap.size w4 (x2.alloc (.cells #[.slice none 0 0] 34)) := hB2.alloc hB2.size _
      have hX3 := Blk.new x2 34 #[.slice none 0 0]
      have hKA : Keeps (fun b => x1.heap.size ≤ b) x2 (x2.alloc (.cells #[.slice none 0 0] 34)) := (Keeps.refl _ _).alloc _
      generalize x2.alloc (.cells #[.slice none 0 0] 34) = x3 at *
      refine wpAnyS_one (i := 9) (by kernel_rfl) rfl rfl (fun K hK => ?_)
      have c0 : x3.cell? ⟨x2.heap.size, 0, none⟩ = some (.slice none 0 0) := hX3.cell 0
      have g0 : x3.frozen? ⟨x2.heap.size, 0, none⟩ = false := hX3.frozen 0
      have cl : x2.heap.size < x3.heap.size := hX3.lt
      have HXX := hid hX3
      clear hX3
      go_wp2_with fail
      refine hK _ _ (Or.inl rfl) ?_
      clear hK K
      ((try simp only [Act.put]); (try simp only [nrA]); (try simp only [nrB]); (try simp only [nrC]))
      refine wpAnyS_one (i := 10) (by kernel_rfl) rfl rfl (fun K hK => ?_)
      go_wp2_with fail
      refine hK _ _ (Or.inl rfl) ?_
      clear hK K
      ((try simp only [Act.put]); (try simp only [nrA]); (try simp only [nrB]); (try simp only [nrC]))
      refine wpAnyS_done (by kernel_rfl) ?_ _
      go_wp2_with fail
      go_meet
      exact ⟨x2.heap.size, A, cap, rfl, rfl, ⟨(HXX.out.set_ 0 _), (Nodes.keep (Z := fun b => x1.heap.size ≤ b) hN (hKA.setCell (fun h => absurd h (Nat.lt_irrefl _)) _)).mono (fun _ _ => trivial)⟩, (hB3.setCell hB2.size _)⟩
     ·go_wp2_with fail
      refine hK _ _ (Or.inr (hB1.alloc hB1.size _)) ?_
      clear hK K
      ((try simp only [Act.put]); (try simp only [nrA]); (try simp only [nrB]); (try simp only [nrC]))
      have hB2 : Below w4.heap.size w4 (x1.alloc (.cells #[.slice none 0 0] 34)) := hB1.alloc hB1.size _
      have hX2 := Blk.new x1 34 #[.slice none 0 0]
      replace hnt := hnt.keep ((Keeps.refl _ _).alloc (.cells #[.slice none 0 0] 34))
      generalize x1.alloc (.cells #[.slice none 0 0] 34) = x2 at *
      refine wpAnyS_one (i := 4) (by kernel_rfl) rfl rfl (fun K hK => ?_)
      go_wp2_with fail
      refine (HAN.out _ hB2 _ _ hnt).mono ?_
      rintro e x3 ⟨A, cap, rfl, hN, hb⟩
      clear hnt
      have hB3 : Below w4.heap.size w4 x3 := hB2.trans (hb.mono hB2.size)
      have hxl : x1.heap.size < x2.heap.size := hX2.lt
      have hX3 := hX2.below hb hX2.lt
      refine hK _ _ (Or.inr hB3) ?_
      clear hK K hb
      ((try simp only [Act.put]); (try simp only [nrA]); (try simp only [nrB]); (try simp only [nrC]))
      have hS : (fun W => Below w4.heap.size w4 W) x3 := hB3
      (refine wpAnyS_take0 (i := 5) (v := ?_) rfl (by kernel_rfl) (by kernel_rfl) (fun _ _ _ h => h) (Or.inl ⟨by kernel_rfl, ?_⟩) (Or.inr hS) ?_; rotate_left; (intro w hSw; clear hSw; go_simp; (try with_reducible rfl)); ((try simp only [Act.put]); (try simp only [nrA]); (try simp only [nrB]); (try simp only [nrC])))
      (refine wpAnyS_take0 (i := 6) (v := ?_) rfl (by kernel_rfl) (by kernel_rfl) (fun _ _ _ h => h) (Or.inl ⟨by kernel_rfl, ?_⟩) (Or.inr hS) ?_; rotate_left; (intro w hSw; clear hSw; go_simp; (try with_reducible rfl)); ((try simp only [Act.put]); (try simp only [nrA]); (try simp only [nrB]); (try simp only [nrC])))
      (refine wpAnyS_take0 (i := 7) (v := ?_) rfl (by kernel_rfl) (by kernel_rfl) (fun _ _ _ h => h) (Or.inl ⟨by kernel_rfl, ?_⟩) (Or.inr hS) ?_; rotate_left; (intro w hSw; clear hSw; go_simp; (try with_reducible rfl)); ((try simp only [Act.put]); (try simp only [nrA]); (try simp only [nrB]); (try simp only [nrC])))
      clear hS
      refine wpAnyS_one (i := 9) (by kernel_rfl) rfl rfl (fun K hK => ?_)
      have c0 : x3.cell? ⟨x1.heap.size, 0, none⟩ = some (.slice none 0 0) := hX3.cell 0
      have g0 : x3.frozen? ⟨x1.heap.size, 0, none⟩ = false := hX3.frozen 0
      have cl : x1.heap.size < x3.heap.size := hX3.lt
      have HXX := hid hX3
      clear hX3
      go_wp2_with fail
      refine hK _ _ (Or.inl rfl) ?_
      clear hK K
      ((try simp only [Act.put]); (try simp only [nrA]); (try simp only [nrB]); (try simp only [nrC]))
      refine wpAnyS_one (i := 10) (by kernel_rfl) rfl rfl (fun K hK => ?_)
      go_wp2_with fail
      refine hK _ _ (Or.inl rfl) ?_
      clear hK K
      ((try simp only [Act.put]); (try simp only [nrA]); (try simp only [nrB]); (try simp only [nrC]))
      refine wpAnyS_done (by kernel_rfl) ?_ _
      go_wp2_with fail
      go_meet
      exact ⟨x1.heap.size, A, cap, rfl, rfl, ⟨(HXX.out.set_ 0 _), (Nodes.keep (Z := fun b => x2.heap.size ≤ b) hN ((Keeps.refl _ _).setCell (fun _ h => absurd hxl (Nat.not_lt.2 h)) _)).mono (fun _ _ => trivial)⟩, (hB3.setCell hB1.size _)⟩
    ·go_wp2_with fail
     refine hK _ _ (Or.inr (hB0.alloc hB0.size _)) ?_
     clear hK K
     ((try simp only [Act.put]); (try simp only [nrA]); (try simp only [nrB]); (try simp only [nrC]))
     have hB1 : Below w4.heap.size w4 (x0.alloc (.cells #[.slice none 0 0] 34)) := hB0.alloc hB0.size _
     have hX1 := Blk.new x0 34 #[.slice none 0 0]
     generalize x0.alloc (.cells #[.slice none 0 0] 34) = x1 at *
     refine wpAnyS_one (i := 2) (by kernel_rfl) rfl rfl (fun K hK => ?_)
     go_wp2_with fail
     refine (HNO.out _ hB1).mono ?_
     rintro e x2 ⟨NA, ncap, rfl, hnt, hb⟩
     have hB2 : Below w4.heap.size w4 x2 := hB1.trans (hb.mono hB1.size)
     have hX2 := hX1.below hb hX1.lt
     refine hK _ _ (Or.inr hB2) ?_
     clear hK K hb
     ((try simp only [Act.put]); (try simp only [nrA]); (try simp only [nrB]); (try simp only [nrC]))
     refine wpAnyS_one (i := 4) (by kernel_rfl) rfl rfl (fun K hK => ?_)
     go_wp2_with fail
     refine (HAN.out _ hB2 _ _ hnt).mono ?_
     rintro e x3 ⟨A, cap, rfl, hN, hb⟩
     clear hnt
     have hB3 : Below w4.heap.size w4 x3 := hB2.trans (hb.mono hB2.size)
     have hxl : x0.heap.size < x2.heap.size := hX2.lt
     have hX3 := hX2.below hb hX2.lt
     refine hK _ _ (Or.inr hB3) ?_
     clear hK K hb
     ((try simp only [Act.put]); (try simp only [nrA]); (try simp only [nrB]); (try simp only [nrC]))
     have hS : (fun W => Below w4.heap.size w4 W) x3 := hB3
     (refine wpAnyS_take0 (i := 5) (v := ?_) rfl (by kernel_rfl) (by kernel_rfl) (fun _ _ _ h => h) (Or.inl ⟨by kernel_rfl, ?_⟩) (Or.inr hS) ?_; rotate_left; (intro w hSw; clear hSw; go_simp; (try with_reducible rfl)); ((try simp only [Act.put]); (try simp only [nrA]); (try simp only [nrB]); (try simp only [nrC])))
     (refine wpAnyS_take0 (i := 6) (v := ?_) rfl (by kernel_rfl) (by kernel_rfl) (fun _ _ _ h => h) (Or.inl ⟨by kernel_rfl, ?_⟩) (Or.inr hS) ?_; rotate_left; (intro w hSw; clear hSw; go_simp; (try with_reducible rfl)); ((try simp only [Act.put]); (try simp only [nrA]); (try simp only [nrB]); (try simp only [nrC])))
     (refine wpAnyS_take0 (i := 7) (v := ?_) rfl (by kernel_rfl) (by kernel_rfl) (fun _ _ _ h => h) (Or.inl ⟨by kernel_rfl, ?_⟩) (Or.inr hS) ?_; rotate_left; (intro w hSw; clear hSw; go_simp; (try with_reducible rfl)); ((try simp only [Act.put]); (try simp only [nrA]); (try simp only [nrB]); (try simp only [nrC])))
     clear hS
     refine wpAnyS_one (i := 9) (by kernel_rfl) rfl rfl (fun K hK => ?_)
     have c0 : x3.cell? ⟨x0.heap.size, 0, none⟩ = some (.slice none 0 0) := hX3.cell 0
     have g0 : x3.frozen? ⟨x0.heap.size, 0, none⟩ = false := hX3.frozen 0
     have cl : x0.heap.size < x3.heap.size := hX3.lt
     have HXX := hid hX3
     clear hX3
     go_wp2_with fail
     refine hK _ _ (Or.inl rfl) ?_
     clear hK K
     ((try simp only [Act.put]); (try simp only [nrA]); (try simp only [nrB]); (try simp only [nrC]))
     refine wpAnyS_one (i := 10) (by kernel_rfl) rfl rfl (fun K hK => ?_)
     go_wp2_with fail
     refine hK _ _ (Or.inl rfl) ?_
     clear hK K
     ((try simp only [Act.put]); (try simp only [nrA]); (try simp only [nrB]); (try simp only [nrC]))
     refine wpAnyS_done (by kernel_rfl) ?_ _
     go_wp2_with fail
     go_meet
     exact ⟨x0.heap.size, A, cap, rfl, rfl, ⟨(HXX.out.set_ 0 _), (Nodes.keep (Z := fun b => x2.heap.size ≤ b) hN ((Keeps.refl _ _).setCell (fun _ h => absurd hxl (Nat.not_lt.2 h)) _)).mono (fun _ _ => trivial)⟩, (hB3.setCell hB0.size _)⟩
   case rest =>
    obtain ⟨bx, XA, xcap, rfl, rfl, hx, hb⟩ := hcut
    replace HL := hid (HL.out.on hb)
    replace HA := hid (HA.out.on hb)
    replace HB := hid (HB.out.on hb)
    have HX := hid hx
    clear hx hb
    rename World => w7
    go_upto_region 8 with fail
    go_cut [15, 16] from 62 to 69 (fun vp ve wx => ∃ bx A cap, vp = .pointer (some ⟨bx, 0, none⟩) ∧ ve = .int .i64 m ∧ Dgm wx bx A cap y ∧ Below w7.heap.size w7 wx)
    case first =>
     have HNO := hid (fun (W : World) (hW : Below w7.heap.size w7 W) => not_law (HA.out.nod.keep (.of_below hW)))
     have HAN := hid (fun (W : World) (hW : Below w7.heap.size w7 W) (NA : Option Addr) (ncap : Nat) (hn : Nodes (fun _ => True) W (.slice NA (notD a).length ncap) (notD a)) => and_new (HB.out.nod.keep (.of_below hW)) hn ((HL.out.fs.mono HL.out.zone).keep (.of_below hW) |>.mono fun b hb => Nat.lt_of_lt_of_le hb hW.size) ((HL.out.tab.on hW).mono hW.size) HY0.out)
     have HC := hid (fun (W : World) (hW : Below w7.heap.size w7 W) => (show W.cell? ⟨ba + 1, 0, none⟩ = some (.slice GA' b.length gcap') ∧ W.cell? ⟨ba, 0, none⟩ = some (.slice GA a.length gcap) ∧ W.cell? ⟨w.heap.size + 1 + 1, 0, none⟩ = some (.slice D ds.length dcap) from ⟨(HB.out.box.below hW HB.out.box.lt).cell 0, (HA.out.box.below hW HA.out.box.lt).cell 0, (HL.out.db.below hW HL.out.db.lt).cell 0⟩))
     refine wp_region_S 9 (fun W => Below w7.heap.size w7 W) (by kernel_rfl) ?_
     have hB0 : Below w7.heap.size w7 w7.drew := (Below.refl _ _).drew
     have hS : (fun W => Below w7.heap.size w7 W) w7.drew := hB0
     generalize w7.drew = x0 at *
     (refine wpAnyS_take (i := 0) (v := ?_) rfl (by kernel_rfl) (by kernel_rfl) (fun _ _ _ h => h) (Or.inl ⟨by kernel_rfl, ?_⟩) hS ?_; rotate_left; (intro w hSw; have hkw := hSw; obtain ⟨cp, cq, d0⟩ := HC.out _ hkw; clear hkw; go_simp; (try with_reducible rfl)); ((try simp only [Act.put]); (try simp only [nrA]); (try simp only [nrB]); (try simp only [nrC])))
     (refine wpAnyS_take (i := 1) (v := ?_) rfl (by kernel_rfl) (by kernel_rfl) (fun _ _ _ h => h) (Or.inl ⟨by kernel_rfl, ?_⟩) hS ?_; rotate_left; (intro w hSw; have hkw := hSw; obtain ⟨cp, cq, d0⟩ := HC.out _ hkw; clear hkw; go_simp; (try with_reducible rfl)); ((try simp only [Act.put]); (try simp only [nrA]); (try simp only [nrB]); (try simp only [nrC])))
     (refine wpAnyS_take (i := 3) (v := ?_) rfl (by kernel_rfl) (by kernel_rfl) (fun _ _ _ h => h) (Or.inl ⟨by kernel_rfl, ?_⟩) hS ?_; rotate_left; (intro w hSw; have hkw := hSw; obtain ⟨cp, cq, d0⟩ := HC.out _ hkw; clear hkw; go_simp; (try with_reducible rfl)); ((try simp only [Act.put]); (try simp only [nrA]); (try simp only [nrB]); (try simp only [nrC])))
     clear hS
     refine wpAnyS_two (i := 2) (j := 8) (by kernel_rfl) rfl rfl rfl rfl (fun K hK => ?_) (fun K hK => ?_)
     ·go_wp2_with fail
      refine (HNO.out _ hB0).mono ?_
      rintro e x1 ⟨NA, ncap, rfl, hnt, hb⟩
      have hB1 : Below w7.heap.size w7 x1 := hB0.trans (hb.mono hB0.size)
      refine hK _ _ (Or.inr hB1) ?_
      clear hK K hb
      ((try simp only [Act.put]); (try simp only [nrA]); (try simp only [nrB]); (try simp only [nrC]))
      refine wpAnyS_two (i := 4) (j := 8) (by kernel_rfl) rfl rfl rfl rfl (fun K hK => ?_) (fun K hK => ?_)
      ·go_wp2_with fail
       refine (HAN.out _ hB1 _ _ hnt).mono ?_
       rintro e x2 ⟨A, cap, rfl, hN, hb⟩
       clear hnt
       have hB2 : Below w7.heap.size w7 x2 := hB1.trans (hb.mono hB1.size)
       refine hK _ _ (Or.inr hB2) ?_
       clear hK K hb
       ((try simp only [Act.put]); (try simp only [nrA]); (try simp only [nrB]); (try simp only [nrC]))
       have hS : (fun W => Below w7.heap.size w7 W) x2 := hB2
       (refine wpAnyS_take0 (i := 5) (v := ?_) rfl (by kernel_rfl) (by kernel_rfl) (fun _ _ _ h => h) (Or.inl ⟨by kernel_rfl, ?_⟩) (Or.inr hS) ?_; rotate_left; (intro w hSw; clear hSw; go_simp; (try with_reducible rfl)); ((try simp only [Act.put]); (try simp only [nrA]); (try simp only [nrB]); (try simp only [nrC])))
       (refine wpAnyS_take0 (i := 6) (v := ?_) rfl (by kernel_rfl) (by kernel_rfl) (fun _ _ _ h => h) (Or.inl ⟨by kernel_rfl, ?_⟩) (Or.inr hS) ?_; rotate_left; (intro w hSw; clear hSw; go_simp; (try with_reducible rfl)); ((try simp only [Act.put]); (try simp only [nrA]); (try simp only [nrB]); (try simp only [nrC])))
       (refine wpAnyS_take0 (i := 7) (v := ?_) rfl (by kernel_rfl) (by kernel_rfl) (fun _ _ _ h => h) (Or.inl ⟨by kernel_rfl, ?_⟩) (Or.inr hS) ?_; rotate_left; (intro w hSw; clear hSw; go_simp; (try with_reducible rfl)); ((try simp only [Act.put]); (try simp only [nrA]); (try simp only [nrB]); (try simp only [nrC])))
       clear hS
       refine wpAnyS_one (i := 8) (by kernel_rfl) rfl rfl (fun K hK => ?_)
       go_wp2_with fail
       refine hK _ _ (Or.inr (hB2.alloc hB2.size _)) ?_
       clear hK K
       ((try simp only [Act.put]); (try simp only [nrA]); (try simp only [nrB]); (try simp only [nrC]))
       have hB3 : Below w7.heap.size w7 (x2.alloc (.cells #[.slice none 0 0] 34)) := hB2.alloc hB2.size _
       have hX3 := Blk.new x2 34 #[.slice none 0 0]
       have hKA : Keeps (fun b => x1.heap.size ≤ b) x2 (x2.alloc (.cells #[.slice none 0 0] 34)) := (Keeps.refl _ _).alloc _
       generalize x2.alloc (.cells #[.slice none 0 0] 34) = x3 at *
       refine wpAnyS_one (i := 9) (by kernel_rfl) rfl rfl (fun K hK => ?_)
       have c0 : x3.cell? ⟨x2.heap.size, 0, none⟩ = some (.slice none 0 0) := hX3.cell 0
       have g0 : x3.frozen? ⟨x2.heap.size, 0, none⟩ = false := hX3.frozen 0
       have cl : x2.heap.size < x3.heap.size := hX3.lt
       have HXX := hid hX3
       clear hX3
       go_wp2_with fail
       refine hK _ _ (Or.inl rfl) ?_
       clear hK K
       ((try simp only [Act.put]); (try simp only [nrA]); (try simp only [nrB]); (try simp only [nrC]))
       refine wpAnyS_one (i := 10) (by kernel_rfl) rfl rfl (fun K hK => ?_)
       go_wp2_with fail
       refine hK _ _ (Or.inl rfl) ?_
       clear hK K
       ((try simp only [Act.put]); (try simp only [nrA]); (try simp only [nrB]); (try simp only [nrC]))
       refine wpAnyS_done (by kernel_rfl) ?_ _
       go_wp2_with fail
       go_meet
       exact ⟨x2.heap.size, A, cap, rfl, rfl, ⟨(HXX.out.set_ 0 _), (Nodes.keep (Z := fun b => x1.heap.size ≤ b) hN (hKA.setCell (fun h => absurd h (Nat.lt_irrefl _)) _)).mono (fun _ _ => trivial)⟩, (hB3.setCell hB2.size _)⟩
      ·go_wp2_with fail
       refine hK _ _ (Or.inr (hB1.alloc hB1.size _)) ?_
       clear hK K
       ((try simp only [Act.put]); (try simp only [nrA]); (try simp only [nrB]); (try simp only [nrC]))
       have hB2 : Below w7.heap.size w7 (x1.alloc (.cells #[.slice none 0 0] 34)) := hB1.alloc hB1.size _
       have hX2 := Blk.new x1 34 #[.slice none 0 0]
       replace hnt := hnt.keep ((Keeps.refl _ _).alloc (.cells #[.slice none 0 0] 34))
       generalize x1.alloc (.cells #[.slice none 0 0] 34) = x2 at *
       refine wpAnyS_one (i := 4) (by kernel_rfl) rfl rfl (fun K hK => ?_)
       go_wp2_with fail
       refine (HAN.out _ hB2 _ _ hnt).mono ?_
       rintro e x3 ⟨A, cap, rfl, hN, hb⟩
       clear hnt
       have hB3 : Below w7.heap.size w7 x3 := hB2.trans (hb.mono hB2.size)
       have hxl : x1.heap.size < x2.heap.size := hX2.lt
       have hX3 := hX2.below hb hX2.lt
       refine hK _ _ (Or.inr hB3) ?_
       clear hK K hb
       ((try simp only [Act.put]); (try simp only [nrA]); (try simp only [nrB]); (try simp only [nrC]))
       have hS : (fun W => Below w7.heap.size w7 W) x3 := hB3
       (refine wpAnyS_take0 (i := 5) (v := ?_) rfl (by kernel_rfl) (by kernel_rfl) (fun _ _ _ h => h) (Or.inl ⟨by kernel_rfl, ?_⟩) (Or.inr hS) ?_; rotate_left; (intro w hSw; clear hSw; go_simp; (try with_reducible rfl)); ((try simp only [Act.put]); (try simp only [nrA]); (try simp only [nrB]); (try simp only [nrC])))
       (refine wpAnyS_take0 (i := 6) (v := ?_) rfl (by kernel_rfl) (by kernel_rfl) (fun _ _ _ h => h) (Or.inl ⟨by kernel_rfl, ?_⟩) (Or.inr hS) ?_; rotate_left; (intro w hSw; clear hSw; go_simp; (try with_reducible rfl)); ((try simp only [Act.put]); (try simp only [nrA]); (try simp only [nrB]); (try simp only [nrC])))
       (refine wpAnyS_take0 (i := 7) (v := ?_) rfl (by kernel_rfl) (by kernel_rfl) (fun _ _ _ h => h) (Or.inl ⟨by kernel_rfl, ?_⟩) (Or.inr hS) ?_; rotate_left; (intro w hSw; clear hSw; go_simp; (try with_reducible rfl)); ((try simp only [Act.put]); (try simp only [nrA]); (try simp only [nrB]); (try simp only [nrC])))
       clear hS
       refine wpAnyS_one (i := 9) (by kernel_rfl) rfl rfl (fun K hK => ?_)
       have c0 : x3.cell? ⟨x1.heap.size, 0, none⟩ = some (.slice none 0 0) := hX3.cell 0
       have g0 : x3.frozen? ⟨x1.heap.size, 0, none⟩ = false := hX3.frozen 0
       have cl : x1.heap.size < x3.heap.size := hX3.lt
       have HXX := hid hX3
       clear hX3
       go_wp2_with fail
       refine hK _ _ (Or.inl rfl) ?_
       clear hK K
       ((try simp only [Act.put]); (try simp only [nrA]); (try simp only [nrB]); (try simp only [nrC]))
       refine wpAnyS_one (i := 10) (by kernel_rfl) rfl rfl (fun K hK => ?_)
       go_wp2_with fail
       refine hK _ _ (Or.inl rfl) ?_
       clear hK K
       ((try simp only [Act.put]); (try simp only [nrA]); (try simp only [nrB]); (try simp only [nrC]))
       refine wpAnyS_done (by kernel_rfl) ?_ _
       go_wp2_with fail
       go_meet
       exact ⟨x1.heap.size, A, cap, rfl, rfl, ⟨(HXX.out.set_ 0 _), (Nodes.keep (Z := fun b => x2.heap.size ≤ b) hN ((Keeps.refl _ _).setCell (fun _ h => absurd hxl (Nat.not_lt.2 h)) _)).mono (fun _ _ => trivial)⟩, (hB3.setCell hB1.size _)⟩
     ·go_wp2_with fail
      refine hK _ _ (Or.inr (hB0.alloc hB0.size _)) ?_
      clear hK K
      ((try simp only [Act.put]); (try simp only [nrA]); (try simp only [nrB]); (try simp only [nrC]))
      have hB1 : Below w7.heap.size w7 (x0.alloc (.cells #[.slice none 0 0] 34)) := hB0.alloc hB0.size _
      have hX1 := Blk.new x0 34 #[.slice none 0 0]
      generalize x0.alloc (.cells #[.slice none 0 0] 34) = x1 at *
      refine wpAnyS_one (i := 2) (by kernel_rfl) rfl rfl (fun K hK => ?_)
      go_wp2_with fail
      refine (HNO.out _ hB1).mono ?_
      rintro e x2 ⟨NA, ncap, rfl, hnt, hb⟩
      have hB2 : Below w7.heap.size w7 x2 := hB1.trans (hb.mono hB1.size)
      have hX2 := hX1.below hb hX1.lt
      refine hK _ _ (Or.inr hB2) ?_
      clear hK K hb
      ((try simp only [Act.put]); (try simp only [nrA]); (try simp only [nrB]); (try simp only [nrC]))
      refine wpAnyS_one (i := 4) (by kernel_rfl) rfl rfl (fun K hK => ?_)
      go_wp2_with fail
      refine (HAN.out _ hB2 _ _ hnt).mono ?_
      rintro e x3 ⟨A, cap, rfl, hN, hb⟩
      clear hnt
      have hB3 : Below w7.heap.size w7 x3 := hB2.trans (hb.mono hB2.size)
      have hxl : x0.heap.size < x2.heap.size := hX2.lt
      have hX3 := hX2.below hb hX2.lt
      refine hK _ _ (Or.inr hB3) ?_
      clear hK K hb
      ((try simp only [Act.put]); (try simp only [nrA]); (try simp only [nrB]); (try simp only [nrC]))
      have hS : (fun W => Below w7.heap.size w7 W) x3 := hB3
      (refine wpAnyS_take0 (i := 5) (v := ?_) rfl (by kernel_rfl) (by kernel_rfl) (fun _ _ _ h => h) (Or.inl ⟨by kernel_rfl, ?_⟩) (Or.inr hS) ?_; rotate_left; (intro w hSw; clear hSw; go_simp; (try with_reducible rfl)); ((try simp only [Act.put]); (try simp only [nrA]); (try simp only [nrB]); (try simp only [nrC])))
      (refine wpAnyS_take0 (i := 6) (v := ?_) rfl (by kernel_rfl) (by kernel_rfl) (fun _ _ _ h => h) (Or.inl ⟨by kernel_rfl, ?_⟩) (Or.inr hS) ?_; rotate_left; (intro w hSw; clear hSw; go_simp; (try with_reducible rfl)); ((try simp only [Act.put]); (try simp only [nrA]); (try simp only [nrB]); (try simp only [nrC])))
      (refine wpAnyS_take0 (i := 7) (v := ?_) rfl (by kernel_rfl) (by kernel_rfl) (fun _ _ _ h => h) (Or.inl ⟨by kernel_rfl, ?_⟩) (Or.inr hS) ?_; rotate_left; (intro w hSw; clear hSw; go_simp; (try with_reducible rfl)); ((try simp only [Act.put]); (try simp only [nrA]); (try simp only [nrB]); (try simp only [nrC])))
      clear hS
      refine wpAnyS_one (i := 9) (by kernel_rfl) rfl rfl (fun K hK => ?_)
      have c0 : x3.cell? ⟨x0.heap.size, 0, none⟩ = some (.slice none 0 0) := hX3.cell 0
      have g0 : x3.frozen? ⟨x0.heap.size, 0, none⟩ = false := hX3.frozen 0
      have cl : x0.heap.size < x3.heap.size := hX3.lt
      have HXX := hid hX3
      clear hX3
      go_wp2_with fail
      refine hK _ _ (Or.inl rfl) ?_
      clear hK K
      ((try simp only [Act.put]); (try simp only [nrA]); (try simp only [nrB]); (try simp only [nrC]))
      refine wpAnyS_one (i := 10) (by kernel_rfl) rfl rfl (fun K hK => ?_)
      go_wp2_with fail
      refine hK _ _ (Or.inl rfl) ?_
      clear hK K
      ((try simp only [Act.put]); (try simp only [nrA]); (try simp only [nrB]); (try simp only [nrC]))
      refine wpAnyS_done (by kernel_rfl) ?_ _
      go_wp2_with fail
      go_meet
      exact ⟨x0.heap.size, A, cap, rfl, rfl, ⟨(HXX.out.set_ 0 _), (Nodes.keep (Z := fun b => x2.heap.size ≤ b) hN ((Keeps.refl _ _).setCell (fun _ h => absurd hxl (Nat.not_lt.2 h)) _)).mono (fun _ _ => trivial)⟩, (hB3.setCell hB0.size _)⟩
    case rest =>
     obtain ⟨by_, YA, ycap, rfl, rfl, hx, hb⟩ := hcut
     replace HL := hid (HL.out.on hb)
     replace HA := hid (HA.out.on hb)
     replace HB := hid (HB.out.on hb)
     replace HX := hid (HX.out.on hb)
     have HY := hid hx
     clear hx hb
     rename World => w8
     have la := (build_ok HBF.out).1.len
     have lb := (build_ok HBH.out).1.len
     by_cases hnm : n = 2 ∨ m = 2
     ·have hlen : 4000 < a.length * b.length := by
       rcases HE.out with e | ⟨-, e⟩
       ·rcases HG.out with e' | ⟨-, e'⟩
        ·exact absurd hnm (by omega)
        ·exact e'
       ·exact e
      have hle : a.length * b.length ≤ 4000 * 4000 := Nat.mul_le_mul la lb
      have hmul : ((a.length * b.length : Nat) : Int) = (a.length : Int) * (b.length : Int) := Int.natCast_mul _ _
      have hwr : IntKind.i64.wrap ((a.length : Int) * (b.length : Int)) = (a.length : Int) * (b.length : Int) := wrapI_id (by rw [← hmul]; omega) (by rw [← hmul]; omega)
      have hgt : decide ((4000 : Int) < (a.length : Int) * (b.length : Int)) = true := by rw [← hmul]; exact decide_eq_true (by omega)
      clear hle hmul la lb hlen
      have cHA : w8.cell? ⟨ba, 0, none⟩ = some (.slice GA a.length gcap) := HA.out.box.cell 0
      have lHA : ba < w8.heap.size := HA.out.box.lt
      have cHB : w8.cell? ⟨ba + 1, 0, none⟩ = some (.slice GA' b.length gcap') := HB.out.box.cell 0
      have lHB : ba + 1 < w8.heap.size := HB.out.box.lt
      rcases HE.out with hn | ⟨hn, -⟩
      ·subst hn
       have hm : m = 2 := by omega
       subst hm
       clear hnm HE HG
       go_wp2_with fail
       exact bodyPost_ret (v := .bool true) (by simp [results, Tryz.results9, go_sem]) rfl ⟨rfl, HL.out.below⟩
      ·subst hn
       clear hnm HE HG
       go_wp2_with fail
       exact bodyPost_ret (v := .bool true) (by simp [results, Tryz.results9, go_sem]) rfl ⟨rfl, HL.out.below⟩
     ·have hn : n = 0 := by rcases HE.out with e | ⟨e, -⟩ <;> omega
      have hm : m = 0 := by rcases HG.out with e | ⟨e, -⟩ <;> omega
      subst hn hm
      clear hnm HE HG la lb
      have cHX : w8.cell? ⟨bx, 0, none⟩ = some (.slice XA x.length xcap) := HX.out.box.cell 0
      have lHX : bx < w8.heap.size := HX.out.box.lt
      have cHY : w8.cell? ⟨by_, 0, none⟩ = some (.slice YA y.length ycap) := HY.out.box.cell 0
      have lHY : by_ < w8.heap.size := HY.out.box.lt
      have d0 : w8.cell? ⟨w.heap.size + 1 + 1, 0, none⟩ = some (.slice D ds.length dcap) := HL.out.db.cell 0
      have dl : w.heap.size + 1 + 1 < w8.heap.size := HL.out.db.lt
      go_wp2_with fail
      have HDL := dleast_any (fun _ => True) (.slice XA x.length xcap) (.slice D ds.length dcap) x ds w8 HX.out.nod (HL.out.fs.mono fun _ _ => trivial) HL.out.tab
      have HDM := hid (fun W (hW : Below w8.heap.size w8 W) => dleast_any (fun _ => True) (.slice YA y.length ycap) (.slice D ds.length dcap) y ds W (HY.out.nod.keep (.of_below hW)) ((HL.out.on hW).fs.mono fun _ _ => trivial) (HL.out.on hW).tab)
      have HNN := hid (eq_none HBF.out HBH.out HAB.out HX0.out HY0.out)
      have HS1 := hid (fun p (hp : leastS ds x = some p) => eq_some HBF.out HBH.out HX0.out hp)
      have HS2 := hid (fun p (hp : leastS ds y = some p) => eq_some HBH.out HBF.out HY0.out hp)
      generalize leastS ds x = r at *
      generalize leastS ds y = q at *
      clear HA HB HAB HBF HBH HX0 HY0
      cases r with
      | none =>
       refine HDL.mono fun e w9 hlp => ?_
       clear HDL
       obtain ⟨PA, pcap, rfl, hb⟩ := least_no hlp
       replace HDM := hid (HDM.out _ hb)
       replace HL := hid (HL.out.on hb)
       replace HY := hid (HY.out.on hb)
       clear hb hlp cHX lHX cHY lHY d0 dl HX HS1
       have cHY : w9.cell? ⟨by_, 0, none⟩ = some (.slice YA y.length ycap) := HY.out.box.cell 0
       have lHY : by_ < w9.heap.size := HY.out.box.lt
       have d0 : w9.cell? ⟨w.heap.size + 1 + 1, 0, none⟩ = some (.slice D ds.length dcap) := HL.out.db.cell 0
       have dl : w.heap.size + 1 + 1 < w9.heap.size := HL.out.db.lt
       go_wp2_with fail
       cases q with
       | none =>
        refine HDM.out.mono fun e wa hlp => ?_
        clear HDM
        obtain ⟨QA, qcap, rfl, hb⟩ := least_no hlp
        replace HL := hid (HL.out.on hb)
        clear hb hlp cHY lHY d0 dl HY HS2
        exact (HNN.out (by simp) (by simp)).elim
       | some q =>
        refine HDM.out.mono fun e wa hlp => ?_
        clear HDM
        obtain ⟨QA, qcap, rfl, hq, hb⟩ := least_yes hlp
        obtain ⟨Q1, Q2, Q3⟩ : Hid (fits ds q = true) ∧ Hid (holdsS ds q h = true) ∧ Hid (holdsS ds q f = false) := ⟨hid (HS2.out q rfl).1, hid (HS2.out q rfl).2.1, hid (HS2.out q rfl).2.2⟩
        have HQ := hid hq
        clear hq
        replace HL := hid (HL.out.on hb)
        clear hb hlp cHY lHY d0 dl HY HS2
        clear HNN
        obtain ⟨f0, f1, f2, f3, f4, fl, g0, g1, g2, g3, g4, gl, d0, dl⟩ := HL.out.cells
        have HCC := hid (factFits_any (fun _ => True) (.slice D ds.length dcap) (.slice QA q.length qcap) ds q _ (HL.out.fs.mono fun _ _ => trivial) HQ.out)
        rw [Q1.out] at HCC
        go_wp2_with fail
        refine HCC.out.mono ?_
        rintro e wb ⟨rfl, hb⟩
        replace HL := hid (HL.out.on hb)
        replace HQ := hid (HQ.out.keep (Keeps.of_below hb))
        clear hb HCC f0 f1 f2 f3 f4 fl g0 g1 g2 g3 g4 gl d0 dl
        obtain ⟨f0, f1, f2, f3, f4, fl, g0, g1, g2, g3, g4, gl, d0, dl⟩ := HL.out.cells
        have HCC := hid (holds_any (fun b => b < wb.heap.size) (.slice D ds.length dcap) (.slice QA q.length qcap) ds q h _ wb (FmR.mono HL.out.zone _ _ HL.out.gm) (HL.out.fs.mono HL.out.zone) (ints_here HQ.out) (by have := small_size S2.out; omega) (fun _ h => h))
        rw [Q2.out] at HCC
        go_wp2_with fail
        refine HCC.out.mono ?_
        rintro e wc ⟨rfl, hb⟩
        replace HL := hid (HL.out.on hb)
        replace HQ := hid (HQ.out.keep (Keeps.of_below hb))
        clear hb HCC f0 f1 f2 f3 f4 fl g0 g1 g2 g3 g4 gl d0 dl
        obtain ⟨f0, f1, f2, f3, f4, fl, g0, g1, g2, g3, g4, gl, d0, dl⟩ := HL.out.cells
        have HCC := hid (holds_any (fun b => b < wc.heap.size) (.slice D ds.length dcap) (.slice QA q.length qcap) ds q f _ wc (FmR.mono HL.out.zone _ _ HL.out.fm) (HL.out.fs.mono HL.out.zone) (ints_here HQ.out) (by have := small_size S1.out; omega) (fun _ h => h))
        rw [Q3.out] at HCC
        go_wp2_with fail
        refine HCC.out.mono ?_
        rintro e wd ⟨rfl, hb⟩
        replace HL := hid (HL.out.on hb)
        replace HQ := hid (HQ.out.keep (Keeps.of_below hb))
        clear hb HCC f0 f1 f2 f3 f4 fl g0 g1 g2 g3 g4 gl d0 dl
        go_wp2_with fail
        exact bodyPost_ret (v := .bool true) (by simp [results, Tryz.results9, go_sem]) rfl ⟨rfl, HL.out.below⟩
      | some p =>
       refine HDL.mono fun e w9 hlp => ?_
       clear HDL
       obtain ⟨PA, pcap, rfl, hp, hb⟩ := least_yes hlp
       obtain ⟨P1, P2, P3⟩ : Hid (fits ds p = true) ∧ Hid (holdsS ds p f = true) ∧ Hid (holdsS ds p h = false) := ⟨hid (HS1.out p rfl).1, hid (HS1.out p rfl).2.1, hid (HS1.out p rfl).2.2⟩
       have HP := hid hp
       clear hp
       replace HDM := hid (HDM.out _ hb)
       replace HL := hid (HL.out.on hb)
       replace HY := hid (HY.out.on hb)
       clear hb hlp cHX lHX cHY lHY d0 dl HX HS1
       have cHY : w9.cell? ⟨by_, 0, none⟩ = some (.slice YA y.length ycap) := HY.out.box.cell 0
       have lHY : by_ < w9.heap.size := HY.out.box.lt
       have d0 : w9.cell? ⟨w.heap.size + 1 + 1, 0, none⟩ = some (.slice D ds.length dcap) := HL.out.db.cell 0
       have dl : w.heap.size + 1 + 1 < w9.heap.size := HL.out.db.lt
       go_wp2_with fail
       cases q with
       | none =>
        refine HDM.out.mono fun e wa hlp => ?_
        clear HDM
        obtain ⟨QA, qcap, rfl, hb⟩ := least_no hlp
        replace HL := hid (HL.out.on hb)
        replace HP := hid (HP.out.keep (Keeps.of_below hb))
        clear hb hlp cHY lHY d0 dl HY HS2
        clear HNN
        obtain ⟨f0, f1, f2, f3, f4, fl, g0, g1, g2, g3, g4, gl, d0, dl⟩ := HL.out.cells
        have HCC := hid (factFits_any (fun _ => True) (.slice D ds.length dcap) (.slice PA p.length pcap) ds p _ (HL.out.fs.mono fun _ _ => trivial) HP.out)
        rw [P1.out] at HCC
        go_wp2_with fail
        refine HCC.out.mono ?_
        rintro e wb ⟨rfl, hb⟩
        replace HL := hid (HL.out.on hb)
        replace HP := hid (HP.out.keep (Keeps.of_below hb))
        clear hb HCC f0 f1 f2 f3 f4 fl g0 g1 g2 g3 g4 gl d0 dl
        obtain ⟨f0, f1, f2, f3, f4, fl, g0, g1, g2, g3, g4, gl, d0, dl⟩ := HL.out.cells
        have HCC := hid (holds_any (fun b => b < wb.heap.size) (.slice D ds.length dcap) (.slice PA p.length pcap) ds p f _ wb (FmR.mono HL.out.zone _ _ HL.out.fm) (HL.out.fs.mono HL.out.zone) (ints_here HP.out) (by have := small_size S1.out; omega) (fun _ h => h))
        rw [P2.out] at HCC
        go_wp2_with fail
        refine HCC.out.mono ?_
        rintro e wc ⟨rfl, hb⟩
        replace HL := hid (HL.out.on hb)
        replace HP := hid (HP.out.keep (Keeps.of_below hb))
        clear hb HCC f0 f1 f2 f3 f4 fl g0 g1 g2 g3 g4 gl d0 dl
        obtain ⟨f0, f1, f2, f3, f4, fl, g0, g1, g2, g3, g4, gl, d0, dl⟩ := HL.out.cells
        have HCC := hid (holds_any (fun b => b < wc.heap.size) (.slice D ds.length dcap) (.slice PA p.length pcap) ds p h _ wc (FmR.mono HL.out.zone _ _ HL.out.gm) (HL.out.fs.mono HL.out.zone) (ints_here HP.out) (by have := small_size S2.out; omega) (fun _ h => h))
        rw [P3.out] at HCC
        go_wp2_with fail
        refine HCC.out.mono ?_
        rintro e wd ⟨rfl, hb⟩
        replace HL := hid (HL.out.on hb)
        replace HP := hid (HP.out.keep (Keeps.of_below hb))
        clear hb HCC f0 f1 f2 f3 f4 fl g0 g1 g2 g3 g4 gl d0 dl
        go_wp2_with fail
        exact bodyPost_ret (v := .bool true) (by simp [results, Tryz.results9, go_sem]) rfl ⟨rfl, HL.out.below⟩
       | some q =>
        refine HDM.out.mono fun e wa hlp => ?_
        clear HDM
        obtain ⟨QA, qcap, rfl, hq, hb⟩ := least_yes hlp
        obtain ⟨Q1, Q2, Q3⟩ : Hid (fits ds q = true) ∧ Hid (holdsS ds q h = true) ∧ Hid (holdsS ds q f = false) := ⟨hid (HS2.out q rfl).1, hid (HS2.out q rfl).2.1, hid (HS2.out q rfl).2.2⟩
        have HQ := hid hq
        clear hq
        replace HL := hid (HL.out.on hb)
        replace HP := hid (HP.out.keep (Keeps.of_below hb))
        clear hb hlp cHY lHY d0 dl HY HS2
        clear HNN
        obtain ⟨f0, f1, f2, f3, f4, fl, g0, g1, g2, g3, g4, gl, d0, dl⟩ := HL.out.cells
        have HCC := hid (factFits_any (fun _ => True) (.slice D ds.length dcap) (.slice PA p.length pcap) ds p _ (HL.out.fs.mono fun _ _ => trivial) HP.out)
        rw [P1.out] at HCC
        go_wp2_with fail
        refine HCC.out.mono ?_
        rintro e wb ⟨rfl, hb⟩
        replace HL := hid (HL.out.on hb)
        replace HP := hid (HP.out.keep (Keeps.of_below hb))
        replace HQ := hid (HQ.out.keep (Keeps.of_below hb))
        clear hb HCC f0 f1 f2 f3 f4 fl g0 g1 g2 g3 g4 gl d0 dl
        obtain ⟨f0, f1, f2, f3, f4, fl, g0, g1, g2, g3, g4, gl, d0, dl⟩ := HL.out.cells
        have HCC := hid (holds_any (fun b => b < wb.heap.size) (.slice D ds.length dcap) (.slice PA p.length pcap) ds p f _ wb (FmR.mono HL.out.zone _ _ HL.out.fm) (HL.out.fs.mono HL.out.zone) (ints_here HP.out) (by have := small_size S1.out; omega) (fun _ h => h))
        rw [P2.out] at HCC
        go_wp2_with fail
        refine HCC.out.mono ?_
        rintro e wc ⟨rfl, hb⟩
        replace HL := hid (HL.out.on hb)
        replace HP := hid (HP.out.keep (Keeps.of_below hb))
        replace HQ := hid (HQ.out.keep (Keeps.of_below hb))
        clear hb HCC f0 f1 f2 f3 f4 fl g0 g1 g2 g3 g4 gl d0 dl
        obtain ⟨f0, f1, f2, f3, f4, fl, g0, g1, g2, g3, g4, gl, d0, dl⟩ := HL.out.cells
        have HCC := hid (holds_any (fun b => b < wc.heap.size) (.slice D ds.length dcap) (.slice PA p.length pcap) ds p h _ wc (FmR.mono HL.out.zone _ _ HL.out.gm) (HL.out.fs.mono HL.out.zone) (ints_here HP.out) (by have := small_size S2.out; omega) (fun _ h => h))
        rw [P3.out] at HCC
        go_wp2_with fail
        refine HCC.out.mono ?_
        rintro e wd ⟨rfl, hb⟩
        replace HL := hid (HL.out.on hb)
        replace HP := hid (HP.out.keep (Keeps.of_below hb))
        replace HQ := hid (HQ.out.keep (Keeps.of_below hb))
        clear hb HCC f0 f1 f2 f3 f4 fl g0 g1 g2 g3 g4 gl d0 dl
        obtain ⟨f0, f1, f2, f3, f4, fl, g0, g1, g2, g3, g4, gl, d0, dl⟩ := HL.out.cells
        have HCC := hid (factFits_any (fun _ => True) (.slice D ds.length dcap) (.slice QA q.length qcap) ds q _ (HL.out.fs.mono fun _ _ => trivial) HQ.out)
        rw [Q1.out] at HCC
        go_wp2_with fail
        refine HCC.out.mono ?_
        rintro e we ⟨rfl, hb⟩
        replace HL := hid (HL.out.on hb)
        replace HP := hid (HP.out.keep (Keeps.of_below hb))
        replace HQ := hid (HQ.out.keep (Keeps.of_below hb))
        clear hb HCC f0 f1 f2 f3 f4 fl g0 g1 g2 g3 g4 gl d0 dl
        obtain ⟨f0, f1, f2, f3, f4, fl, g0, g1, g2, g3, g4, gl, d0, dl⟩ := HL.out.cells
        have HCC := hid (holds_any (fun b => b < we.heap.size) (.slice D ds.length dcap) (.slice QA q.length qcap) ds q h _ we (FmR.mono HL.out.zone _ _ HL.out.gm) (HL.out.fs.mono HL.out.zone) (ints_here HQ.out) (by have := small_size S2.out; omega) (fun _ h => h))
        rw [Q2.out] at HCC
        go_wp2_with fail
        refine HCC.out.mono ?_
        rintro e wf ⟨rfl, hb⟩
        replace HL := hid (HL.out.on hb)
        replace HP := hid (HP.out.keep (Keeps.of_below hb))
        replace HQ := hid (HQ.out.keep (Keeps.of_below hb))
        clear hb HCC f0 f1 f2 f3 f4 fl g0 g1 g2 g3 g4 gl d0 dl
        obtain ⟨f0, f1, f2, f3, f4, fl, g0, g1, g2, g3, g4, gl, d0, dl⟩ := HL.out.cells
        have HCC := hid (holds_any (fun b => b < wf.heap.size) (.slice D ds.length dcap) (.slice QA q.length qcap) ds q f _ wf (FmR.mono HL.out.zone _ _ HL.out.fm) (HL.out.fs.mono HL.out.zone) (ints_here HQ.out) (by have := small_size S1.out; omega) (fun _ h => h))
        rw [Q3.out] at HCC
        go_wp2_with fail
        refine HCC.out.mono ?_
        rintro e wg ⟨rfl, hb⟩
        replace HL := hid (HL.out.on hb)
        replace HP := hid (HP.out.keep (Keeps.of_below hb))
        replace HQ := hid (HQ.out.keep (Keeps.of_below hb))
        clear hb HCC f0 f1 f2 f3 f4 fl g0 g1 g2 g3 g4 gl d0 dl
        go_wp2_with fail
        exact bodyPost_ret (v := .bool true) (by simp [results, Tryz.results9, go_sem]) rfl ⟨rfl, HL.out.below⟩
 ·replace HL := hid (HL.out.on hb)
  clear hb f0 f1 f2 f3 f4 fl g0 g1 g2 g3 g4 gl d0 dl
  go_wp2_with fail
  have hbb : Below w.heap.size w ((w2.alloc (.cells #[.slice GA gl1 gcap] 34)).alloc (.cells #[.slice GA' gl2 gcap'] 34)) := (HL.out.below.alloc HL.out.below.size _).alloc (by have := HL.out.below.size; simp; omega) _
  exact bodyPost_ret (v := .bool true) (by simp [results, Tryz.results9, go_sem]) rfl ⟨rfl, hbb⟩
end Go.Proofs.YtcigjmlileckhaaGreatDoor
/- DiagramEquals: for every two formulas, domain and case, whatever they are: the law returns true, and the arguments read behind the call as before it. Conditions: the row's own (the listed variables of Go's library read as its text lays them: the card ties them). -/
namespace Go.Proofs.YtcigjmlileckhaaGreatDoor
open Go.ChangeShapes Go.WideShapes Go.ChangeAt Go.RowKit
set_option maxRecDepth 100000 in
theorem equals_lifted (os : Os) (started : os.Started) (H : Type) (enc : TypeId × Value → H) :
  ReturnsInHanded {} Tryz.checked os 9 .any (fun w args => (Rows.diagramEqualsSpec.pre enc Tryz.prog Tryz.f9 [] false w args ∧ laidMetH Tryz.prog laid5 w) ∧ sizedMet enc Tryz.prog Tryz.f9 (OpenSpec.ofChange Rows.diagramEqualsSpec) false w args)
   (Rows.diagramEqualsSpec.post enc Tryz.prog Tryz.f9 false true false false) := by
 refine returnsInHanded_of_change_and (C := Tryz.checked) (X := fun w _ => laidMetH Tryz.prog laid5 w) (fun _ _ _ hh h => h.of_heap hh) own started (by kernel_rfl) Tryz.func9
  (ChangeSpec.witness_shaped (enc := enc) (C := Tryz.checked) (os := os) (X := fun w _ => laidMetH Tryz.prog laid5 w) false (World.doorLaid Tryz.prog 62 os) #[.agg #[.int .i64 0, .string ByteArray.empty, .int .i64 0, .int .i64 0, .slice none 0 0], .agg #[.int .i64 0, .string ByteArray.empty, .int .i64 0, .int .i64 0, .slice none 0 0], .agg #[.slice none 0 0], .slice none 0 0] 8 rfl (World.shaped_of_RefB (by kernel_rfl) (by kernel_rfl)) (by kernel_rfl) (by kernel_rfl) (by kernel_rfl) (door_met os _)) ?_
 intro W base args ds gs before hval0 hW _ hsz0 hL _
 have hval : ∀ (j : Nat) t v, Tryz.f9.params[j]? = some t → args[j]? = some v → Value.okWide Tryz.prog W .any base t v := hval0
 have hW' := hW
 obtain ⟨p, q, hA0, hV, rfl, -, -⟩ := hW
 have hA : DataW.TrodAll enc Tryz.prog W 0 (fun _ => true) true Tryz.f9.params.toList args.toList ds p := hA0
 have hsz : (DataW.weightsEach Tryz.prog (Tryz.f9.params.toList ++ Rows.diagramEqualsSpec.plain.varTypes Tryz.prog) (ds ++ gs)).all (· ≤ reachBytes) = true := hsz0
 clear hA0 hsz0 hval0
 obtain ⟨rfl, rfl⟩ := trodVars_none hV
 simp only [List.append_nil] at hW'
 have hAA := hA
 rw [Tryz.params9] at hA hval hsz
 obtain ⟨v0, vs0, d0, ds0, p0, q0, hargs, rfl, rfl, h0, r0⟩ := trodAll_cons hA
 obtain ⟨v1, vs1, d1, ds1, p1, q1, rfl, rfl, rfl, h1, r1⟩ := trodAll_cons r0
 obtain ⟨v2, vs2, d2, ds2, p2, q2, rfl, rfl, rfl, h2, r2⟩ := trodAll_cons r1
 obtain ⟨v3, vs3, d3, ds3, p3, q3, rfl, rfl, rfl, h3, r3⟩ := trodAll_cons r2
 obtain ⟨rfl, rfl, rfl⟩ := trodAll_nil r3
 obtain rfl : args = #[v0, v1, v2, v3] := by simpa using congrArg List.toArray hargs
 obtain ⟨f0, cs0, rfl, a0⟩ := arg_fm (hval 0 24 _ rfl rfl) h0 (rd_arg hsz (j := 0) rfl rfl)
 obtain ⟨f1, cs1, rfl, a1⟩ := arg_fm (hval 1 24 _ rfl rfl) h1 (rd_arg hsz (j := 1) rfl rfl)
 obtain ⟨x2, xs2, rfl, a2⟩ := arg_dom (hval 2 27 _ rfl rfl) h2 (rd_arg hsz (j := 2) rfl rfl)
 obtain ⟨xs3, a3⟩ := arg_case (hval 3 29 _ rfl rfl) h3 (rd_arg hsz (j := 3) rfl rfl)
 refine (equals_any (Here W) f0 f1 cs0 cs1 x2 v3 xs2 xs3 W a0 a1 a2 a3 (fun _ h => h) (tab_of_laid hL)).mono fun e W' ⟨he, hb⟩ => ?_
 subst he
 exact ⟨_, rfl, law_post hW' hAA rfl rfl (by kernel_rfl) (by kernel_rfl) hb⟩
theorem equals_holds : Rows.DiagramEqualsSaid :=
 OpenClaim.holds_of_wide 9 Tryz.f9 rfl rfl rfl rfl rfl rfl rfl ⟨rfl, rfl, rfl, rfl, rfl⟩ rfl rfl rfl rfl rfl (by kernel_rfl) Tryz.func9 (by kernel_rfl)
  (of_decide_eq_true (by kernel_rfl)) (by unfold Func.isWrapper; rw [if_neg (of_decide_eq_false (by kernel_rfl))]; exact ⟨rfl, rfl⟩)
  (fun os started H enc _ => equals_lifted os started H enc)
theorem equals_card : Rows.DiagramEqualsCardSaid :=
 Claim7.holds_tied_plain_at .later [] [.data, .data, .data, .sentinel, .sentinel] true (true, "78984594f771543e7c6a528bcce2919cfdb226748e413a563341709c1c1b94d1") true
  equals_holds (fun _ h => by cases h) (by kernel_rfl) (fun _ h => by cases h) diagramEquals_row_tie rfl ⟨rfl, rfl⟩ (by kernel_rfl) rfl
  (fun f fn hf hfn => by
   obtain rfl : f = 9 := Option.some.inj ((show Tryz.prog.funcNamed "customhouse/customhouselaw26.DiagramEquals" = some 9 by kernel_rfl).symm.trans hf) |>.symm
   obtain rfl : fn = Tryz.f9 := (Option.some.inj (Tryz.func9.symm.trans hfn)).symm
   exact ⟨by kernel_rfl, fun j t ht => by
    rw [Tryz.params9] at ht
    have hm : t ∈ [24, 24, 27, 29] := by simpa using Array.mem_of_getElem? ht
    have hall : ([24, 24, 27, 29].all fun u => !Tryz.prog.wantsStandIn u) = true := by kernel_rfl
    exact (show Tryz.prog.wantsStandIn t = false by simpa using List.all_eq_true.1 hall t hm)⟩)
  (by kernel_rfl)
end Go.Proofs.YtcigjmlileckhaaGreatDoor
