/- The walk of DiagramForm (printed by mkW78.py). DiagramForm: for every formula and domain, whatever they are: the law returns true, and the arguments read behind the call as before it. Conditions: the row's own (the listed variables of Go's library read as its text lays them: the card ties them). -/
import Derived.Test.YtcigjmlileckhaaGreatDoorM46
import Derived.Test.YtcigjmlileckhaaGreatDoorM35
import Derived.Test.YtcigjmlileckhaaGreatDoorM4
import Derived.Test.YtcigjmlileckhaaGreatDoorCards
import Derived.Test.YtcigjmlileckhaaGreatDoorTie
import Derived.SevenTiedAt

/- The walk of DiagramForm (printed by mkW78.py). -/
namespace Go.Proofs.YtcigjmlileckhaaGreatDoor
open Go.RowKit

set_option maxRecDepth 100000 in
set_option maxHeartbeats 16000000 in
theorem form_any (Z : Zone) (f : Fm) (cs : List Value) (vd : Value) (ds : List FactD) (w : World) (hf : FmR Z w f cs) (hd : Facts Z w vd ds) (hz : ∀ b, Z b → b < w.heap.size) (htab : TabB w.heap.size w) :
    Calls Tryz.prog 6 #[.agg cs.toArray, .agg #[vd]] w fun e w' => e = .returned (.bool true) ∧ Below w.heap.size w w' := by
  obtain ⟨A, cap, rfl⟩ := FmR.form hf
  obtain ⟨D, dcap, hvd, -, -, -⟩ := hd.open_
  subst hvd
  have HL := hid (Lw.start hf hd (Ints.nil Z w) hz htab)
  clear hf hd hz htab
  go_enter Tryz.func6, Tryz.ntmps6
  go_wp2_with fail
  refine (head_any _ HL.out.tab).mono ?_
  rintro e w1 ⟨rfl, hb⟩
  replace HL := hid (HL.out.on hb)
  clear hb
  have f0 : w1.cell? ⟨w.heap.size, 0, none⟩ = some (.int .i64 f.op) := HL.out.fb.cell 0
  have f1 : w1.cell? ⟨w.heap.size, 1, none⟩ = some (.string f.name) := HL.out.fb.cell 1
  have f2 : w1.cell? ⟨w.heap.size, 2, none⟩ = some (.int .i64 f.cmp) := HL.out.fb.cell 2
  have f3 : w1.cell? ⟨w.heap.size, 3, none⟩ = some (.int .i64 f.num) := HL.out.fb.cell 3
  have f4 : w1.cell? ⟨w.heap.size, 4, none⟩ = some (.slice A f.kids.length cap) := HL.out.fb.cell 4
  have fl : w.heap.size < w1.heap.size := HL.out.fb.lt
  have d0 : w1.cell? ⟨w.heap.size + 1, 0, none⟩ = some (.slice D ds.length dcap) := HL.out.db.cell 0
  have dl : w.heap.size + 1 < w1.heap.size := HL.out.db.lt
  go_wp2_with fail
  refine (pair_any Z f f _ _ _ ds w1 HL.out.fm HL.out.fm HL.out.fs HL.out.zone HL.out.tab).mono ?_
  rintro e w2 ⟨hb, ⟨h1, -, h2, -, GA, gl, gcap, GA', gl', gcap', rfl, hn, -⟩ | ⟨GA, gl, gcap, GA', gl', gcap', rfl⟩⟩
  · have hg1 : gl = (buildS ds f).1.length := by obtain ⟨_, _, e, -⟩ := hn.open_; injection e
    subst hg1
    have hb' : Below w2.heap.size w2 ((w2.alloc (.cells #[.slice GA (buildS ds f).1.length gcap] 34)).alloc (.cells #[.slice GA' gl' gcap'] 34)) := below2 w2 _ _
    have HA := hid ((Dgm.new hn).on (below1 _ (.cells #[.slice GA' gl' gcap'] 34)))
    replace HL := hid (HL.out.on (hb.trans (hb'.mono hb.size)))
    obtain ⟨g, hg⟩ : ∃ g, (buildS ds f).1 = g := ⟨_, rfl⟩
    have V := hid (show IsValid ds g from hg ▸ (build_ok (g := (buildS ds f).1) (Prod.ext rfl h2)).1)
    clear h1 h2 hn hb hb' f0 f1 f2 f3 f4 fl d0 dl
    rw [hg] at HA HL ⊢
    clear hg
    go_upto_region 3 with fail
    generalize (w2.alloc (.cells #[.slice GA g.length gcap] 34)).alloc (.cells #[.slice GA' gl' gcap'] 34) = w3 at *
    generalize w2.heap.size = ba at *
    have cHA : w3.cell? ⟨ba, 0, none⟩ = some (.slice GA g.length gcap) := HA.out.box.cell 0
    have lHA : ba < w3.heap.size := HA.out.box.lt
    have d0 : w3.cell? ⟨w.heap.size + 1, 0, none⟩ = some (.slice D ds.length dcap) := HL.out.db.cell 0
    have dl : w.heap.size + 1 < w3.heap.size := HL.out.db.lt
    go_wp2_with fail
    refine (not_law HA.out.nod).mono ?_
    rintro e w4 ⟨NA, ncap, rfl, hn, hb⟩
    have hb' := hb.alloc hb.size (.cells #[.slice NA (notD g).length ncap] 34)
    replace HL := hid (HL.out.on hb')
    replace HA := hid (HA.out.on hb')
    have HN := hid (Dgm.new hn)
    clear hb hb' hn cHA lHA d0 dl
    go_upto_region 6 with fail
    generalize w4.alloc (.cells #[.slice NA (notD g).length ncap] 34) = w5 at *
    generalize w4.heap.size = bn at *
    have cHA : w5.cell? ⟨ba, 0, none⟩ = some (.slice GA g.length gcap) := HA.out.box.cell 0
    have lHA : ba < w5.heap.size := HA.out.box.lt
    have d0 : w5.cell? ⟨w.heap.size + 1, 0, none⟩ = some (.slice D ds.length dcap) := HL.out.db.cell 0
    have dl : w.heap.size + 1 < w5.heap.size := HL.out.db.lt
    go_wp2_with fail
    refine (and_law HA.out.nod HA.out.nod (HL.out.fs.mono HL.out.zone) HL.out.tab (and_self_eq V.out)).mono ?_
    rintro e w6 ⟨SA, scap, rfl, hn, hb⟩
    have hb' := hb.alloc hb.size (.cells #[.slice SA g.length scap] 34)
    replace HL := hid (HL.out.on hb')
    replace HA := hid (HA.out.on hb')
    replace HN := hid (HN.out.on hb')
    have HS := hid (Dgm.new hn)
    clear hb hb' hn cHA lHA d0 dl
    go_upto_region 7 with fail
    generalize w6.alloc (.cells #[.slice SA g.length scap] 34) = w7 at *
    generalize w6.heap.size = bs at *
    have cHA : w7.cell? ⟨ba, 0, none⟩ = some (.slice GA g.length gcap) := HA.out.box.cell 0
    have lHA : ba < w7.heap.size := HA.out.box.lt
    have cHN : w7.cell? ⟨bn, 0, none⟩ = some (.slice NA (notD g).length ncap) := HN.out.box.cell 0
    have lHN : bn < w7.heap.size := HN.out.box.lt
    have d0 : w7.cell? ⟨w.heap.size + 1, 0, none⟩ = some (.slice D ds.length dcap) := HL.out.db.cell 0
    have dl : w.heap.size + 1 < w7.heap.size := HL.out.db.lt
    go_wp2_with fail
    refine (and_law HA.out.nod HN.out.nod (HL.out.fs.mono HL.out.zone) HL.out.tab (and_not_eq V.out)).mono ?_
    rintro e w8 ⟨OA, ocap, rfl, hn, hb⟩
    have hb' := hb.alloc hb.size (.cells #[.slice OA [noNode].length ocap] 34)
    replace HL := hid (HL.out.on hb')
    replace HA := hid (HA.out.on hb')
    replace HN := hid (HN.out.on hb')
    replace HS := hid (HS.out.on hb')
    have HO := hid (Dgm.new hn)
    clear hb hb' hn cHA lHA cHN lHN d0 dl
    go_upto_region 8 with fail
    generalize w8.alloc (.cells #[.slice OA [noNode].length ocap] 34) = w9 at *
    generalize w8.heap.size = bo at *
    have cHA : w9.cell? ⟨ba, 0, none⟩ = some (.slice GA g.length gcap) := HA.out.box.cell 0
    have lHA : ba < w9.heap.size := HA.out.box.lt
    have d0 : w9.cell? ⟨w.heap.size + 1, 0, none⟩ = some (.slice D ds.length dcap) := HL.out.db.cell 0
    have dl : w.heap.size + 1 < w9.heap.size := HL.out.db.lt
    have HTR := hid (nodes_leaf w9 true)
    replace HL := hid (HL.out.on (below1 w9 (.cells #[.bool true, .int .i64 0, .slice none 0 0, .slice none 0 0] 55)))
    replace HA := hid (HA.out.on (below1 w9 (.cells #[.bool true, .int .i64 0, .slice none 0 0, .slice none 0 0] 55)))
    replace HN := hid (HN.out.on (below1 w9 (.cells #[.bool true, .int .i64 0, .slice none 0 0, .slice none 0 0] 55)))
    replace HS := hid (HS.out.on (below1 w9 (.cells #[.bool true, .int .i64 0, .slice none 0 0, .slice none 0 0] 55)))
    replace HO := hid (HO.out.on (below1 w9 (.cells #[.bool true, .int .i64 0, .slice none 0 0, .slice none 0 0] 55)))
    go_wp2_with fail
    refine (and_law HTR.out HA.out.nod (HL.out.fs.mono HL.out.zone) HL.out.tab (and_true_eq V.out)).mono ?_
    rintro e wa ⟨TA, tcap, rfl, hn, hb⟩
    have hb' := hb.alloc hb.size (.cells #[.slice TA g.length tcap] 34)
    replace HL := hid (HL.out.on hb')
    replace HA := hid (HA.out.on hb')
    replace HN := hid (HN.out.on hb')
    replace HS := hid (HS.out.on hb')
    replace HO := hid (HO.out.on hb')
    have HT := hid (Dgm.new hn)
    clear hb hb' hn cHA lHA d0 dl
    go_upto_region 9 with fail
    generalize wa.alloc (.cells #[.slice TA g.length tcap] 34) = wb at *
    generalize wa.heap.size = bt at *
    have HZ := hid (show Dgm ((wb.alloc (.cells #[.bool false, .int .i64 0, .slice none 0 0, .slice none 0 0] 55)).alloc (.cells #[.slice (some ⟨wb.heap.size, 0, none⟩) 1 1] 34)) (wb.heap.size + 1) (some ⟨wb.heap.size, 0, none⟩) 1 [noNode] from by
      have := Dgm.new (A := some ⟨wb.heap.size, 0, none⟩) (cap := 1) (g := [noNode]) (nodes_leaf wb false)
      rw [World.size_alloc] at this
      exact this)
    have hb9 := below2 wb (.cells #[.bool false, .int .i64 0, .slice none 0 0, .slice none 0 0] 55) (.cells #[.slice (some ⟨wb.heap.size, 0, none⟩) 1 1] 34)
    replace HL := hid (HL.out.on hb9)
    replace HA := hid (HA.out.on hb9)
    replace HN := hid (HN.out.on hb9)
    replace HS := hid (HS.out.on hb9)
    replace HO := hid (HO.out.on hb9)
    replace HT := hid (HT.out.on hb9)
    clear hb9 HTR
    go_upto_region 10 with fail
    generalize (wb.alloc (.cells #[.bool false, .int .i64 0, .slice none 0 0, .slice none 0 0] 55)).alloc (.cells #[.slice (some ⟨wb.heap.size, 0, none⟩) 1 1] 34) = wz at *
    generalize wb.heap.size = zb at *
    have cHA : wz.cell? ⟨ba, 0, none⟩ = some (.slice GA g.length gcap) := HA.out.box.cell 0
    have lHA : ba < wz.heap.size := HA.out.box.lt
    have cHN : wz.cell? ⟨bn, 0, none⟩ = some (.slice NA (notD g).length ncap) := HN.out.box.cell 0
    have lHN : bn < wz.heap.size := HN.out.box.lt
    have cHS : wz.cell? ⟨bs, 0, none⟩ = some (.slice SA g.length scap) := HS.out.box.cell 0
    have lHS : bs < wz.heap.size := HS.out.box.lt
    have cHO : wz.cell? ⟨bo, 0, none⟩ = some (.slice OA [noNode].length ocap) := HO.out.box.cell 0
    have lHO : bo < wz.heap.size := HO.out.box.lt
    have cHT : wz.cell? ⟨bt, 0, none⟩ = some (.slice TA g.length tcap) := HT.out.box.cell 0
    have lHT : bt < wz.heap.size := HT.out.box.lt
    have d0 : wz.cell? ⟨w.heap.size + 1, 0, none⟩ = some (.slice D ds.length dcap) := HL.out.db.cell 0
    have dl : w.heap.size + 1 < wz.heap.size := HL.out.db.lt
    have cD := d0
    have lD := dl
    have cHZ : wz.cell? ⟨zb + 1, 0, none⟩ = some (.slice (some ⟨zb, 0, none⟩) 1 1) := HZ.out.box.cell 0
    have lHZ := HZ.out.box.lt
    have HH := hid (fun W (hb : Below wz.heap.size wz W) => (show W.cell? ⟨ba, 0, none⟩ = some (.slice GA g.length gcap) ∧ W.cell? ⟨bn, 0, none⟩ = some (.slice NA (notD g).length ncap) ∧ W.cell? ⟨bs, 0, none⟩ = some (.slice SA g.length scap) ∧ W.cell? ⟨bo, 0, none⟩ = some (.slice OA [noNode].length ocap) ∧ W.cell? ⟨bt, 0, none⟩ = some (.slice TA g.length tcap) ∧ W.cell? ⟨zb + 1, 0, none⟩ = some (.slice (some ⟨zb, 0, none⟩) 1 1) ∧ W.cell? ⟨w.heap.size + 1, 0, none⟩ = some (.slice D ds.length dcap) from ⟨(hb.cell (p := ⟨ba, 0, none⟩) lHA).trans cHA, (hb.cell (p := ⟨bn, 0, none⟩) lHN).trans cHN, (hb.cell (p := ⟨bs, 0, none⟩) lHS).trans cHS, (hb.cell (p := ⟨bo, 0, none⟩) lHO).trans cHO, (hb.cell (p := ⟨bt, 0, none⟩) lHT).trans cHT, (hb.cell (p := ⟨zb + 1, 0, none⟩) lHZ).trans cHZ, (hb.cell (p := ⟨w.heap.size + 1, 0, none⟩) lD).trans cD⟩))
    have FSZ := hid (fun W (hb : Below wz.heap.size wz W) => (HL.out.fs.mono HL.out.zone).keep (.of_below hb) |>.mono (Z' := fun _ => True) fun _ _ => trivial)
    have HTB := hid (fun W (hb : Below wz.heap.size wz W) => (HL.out.tab.on hb).mono hb.size)
    have ND := hid (notD_valid V.out)
    go_region_held3 (fun w' => w'.cell? ⟨ba, 0, none⟩ = some (.slice GA g.length gcap) ∧ w'.cell? ⟨bn, 0, none⟩ = some (.slice NA (notD g).length ncap) ∧ w'.cell? ⟨bs, 0, none⟩ = some (.slice SA g.length scap) ∧ w'.cell? ⟨bo, 0, none⟩ = some (.slice OA [noNode].length ocap) ∧ w'.cell? ⟨bt, 0, none⟩ = some (.slice TA g.length tcap) ∧ w'.cell? ⟨zb + 1, 0, none⟩ = some (.slice (some ⟨zb, 0, none⟩) 1 1) ∧ w'.cell? ⟨w.heap.size + 1, 0, none⟩ = some (.slice D ds.length dcap)) (first | exact ⟨cHA, cHN, cHS, cHO, cHT, cHZ, cD⟩ | exact ⟨q0, q1, q2, q3, q4, q5, q6⟩ | (refine ⟨?_, ?_, ?_, ?_, ?_, ?_, ?_⟩ <;> go_keep))
      (first
        | (go_at_call 31; refine (same_law (HO.out.nod.keep (.of_below hy6)) (HZ.out.nod.keep (.of_below hy6)) rfl).mono ?_; rintro e y7 ⟨rfl, hy7⟩; have hy7 : Below wz.heap.size wz y7 := hy6.trans (hy7.mono hy6.size); obtain ⟨q0, q1, q2, q3, q4, q5, q6⟩ := HH.out _ hy7)
        | (go_at_call 31; refine (same_law (HT.out.nod.keep (.of_below hy5)) (HA.out.nod.keep (.of_below hy5)) rfl).mono ?_; rintro e y6 ⟨rfl, hy6⟩; have hy6 : Below wz.heap.size wz y6 := hy5.trans (hy6.mono hy5.size); obtain ⟨q0, q1, q2, q3, q4, q5, q6⟩ := HH.out _ hy6)
        | (go_at_call 31; refine (same_law (HS.out.nod.keep (.of_below hy4)) (HA.out.nod.keep (.of_below hy4)) rfl).mono ?_; rintro e y5 ⟨rfl, hy5⟩; have hy5 : Below wz.heap.size wz y5 := hy4.trans (hy5.mono hy4.size); obtain ⟨q0, q1, q2, q3, q4, q5, q6⟩ := HH.out _ hy5)
        | (go_at_call 31; refine (same_law hyn (HA.out.nod.keep (.of_below hy3)) (notD_notD g)).mono ?_; rintro e y4 ⟨rfl, hy4⟩; have hy4 : Below wz.heap.size wz y4 := hy3.trans (hy4.mono hy3.size); obtain ⟨q0, q1, q2, q3, q4, q5, q6⟩ := HH.out _ hy4)
        | (go_at_call 32; refine (not_law (HN.out.nod.keep (.of_below hy2))).mono ?_; rintro e y3 ⟨YA, ycap, rfl, hyn, hy3⟩; have hy3 : Below wz.heap.size wz y3 := hy2.trans (hy3.mono hy2.size); obtain ⟨q0, q1, q2, q3, q4, q5, q6⟩ := HH.out _ hy3)
        | (go_at_call 15; refine (valid_law (HN.out.nod.keep (.of_below hy1)) (FSZ.out _ hy1) (HTB.out _ hy1) ND.out).mono ?_; rintro e y2 ⟨rfl, hy2⟩; have hy2 : Below wz.heap.size wz y2 := hy1.trans (hy2.mono hy1.size); obtain ⟨q0, q1, q2, q3, q4, q5, q6⟩ := HH.out _ hy2)
        | (go_at_call 15; refine (valid_law (HA.out.nod.keep (.of_below (Below.refl _ _).drew)) (FSZ.out _ (Below.refl _ _).drew) (HTB.out _ (Below.refl _ _).drew) V.out).mono ?_; rintro e y1 ⟨rfl, hy1⟩; have hy1 : Below wz.heap.size wz y1 := (Below.refl _ _).drew.trans hy1; obtain ⟨q0, q1, q2, q3, q4, q5, q6⟩ := HH.out _ hy1))
    replace HL := hid (HL.out.on hy7)
    go_wp2_with fail
    exact bodyPost_ret (v := .bool true) (by simp [results, Tryz.results6, go_sem]) rfl ⟨rfl, HL.out.below⟩

  · replace HL := hid (HL.out.on hb)
    clear hb f0 f1 f2 f3 f4 fl d0 dl
    go_wp2_with fail
    have hbb : Below w.heap.size w ((w2.alloc (.cells #[.slice GA gl gcap] 34)).alloc (.cells #[.slice GA' gl' gcap'] 34)) := (HL.out.below.alloc HL.out.below.size _).alloc (by have := HL.out.below.size; simp; omega) _
    exact bodyPost_ret (v := .bool true) (by simp [results, Tryz.results6, go_sem]) rfl ⟨rfl, hbb⟩
end Go.Proofs.YtcigjmlileckhaaGreatDoor

/- DiagramForm: for every formula and domain, whatever they are: the law returns true, and the arguments read behind the call as before it. Conditions: the row's own (the listed variables of Go's library read as its text lays them: the card ties them). -/
namespace Go.Proofs.YtcigjmlileckhaaGreatDoor
open Go.ChangeShapes Go.WideShapes Go.ChangeAt Go.RowKit

set_option maxRecDepth 100000 in
theorem form_lifted (os : Os) (started : os.Started) (H : Type) (enc : TypeId × Value → H) :
    ReturnsInHanded {} Tryz.checked os 6 .any (fun w args => (Rows.diagramFormSpec.pre enc Tryz.prog Tryz.f6 [] false w args ∧ laidMetH Tryz.prog laid5 w) ∧ sizedMet enc Tryz.prog Tryz.f6 (OpenSpec.ofChange Rows.diagramFormSpec) false w args)
      (Rows.diagramFormSpec.post enc Tryz.prog Tryz.f6 false true false false) := by
  refine returnsInHanded_of_change_and (C := Tryz.checked) (X := fun w _ => laidMetH Tryz.prog laid5 w) (fun _ _ _ hh h => h.of_heap hh) own started (by kernel_rfl) Tryz.func6
    (ChangeSpec.witness_shaped (enc := enc) (C := Tryz.checked) (os := os) (X := fun w _ => laidMetH Tryz.prog laid5 w) false (World.doorLaid Tryz.prog 62 os) #[.agg #[.int .i64 0, .string ByteArray.empty, .int .i64 0, .int .i64 0, .slice none 0 0], .agg #[.slice none 0 0]] 8 rfl (World.shaped_of_RefB (by kernel_rfl) (by kernel_rfl)) (by kernel_rfl) (by kernel_rfl) (by kernel_rfl) (door_met os _)) ?_
  intro W base args ds gs before hval0 hW _ hsz0 hL _
  have hval : ∀ (j : Nat) t v, Tryz.f6.params[j]? = some t → args[j]? = some v → Value.okWide Tryz.prog W .any base t v := hval0
  have hW' := hW
  obtain ⟨p, q, hA0, hV, rfl, -, -⟩ := hW
  have hA : DataW.TrodAll enc Tryz.prog W 0 (fun _ => true) true Tryz.f6.params.toList args.toList ds p := hA0
  have hsz : (DataW.weightsEach Tryz.prog (Tryz.f6.params.toList ++ Rows.diagramFormSpec.plain.varTypes Tryz.prog) (ds ++ gs)).all (· ≤ reachBytes) = true := hsz0
  clear hA0 hsz0 hval0
  obtain ⟨rfl, rfl⟩ := trodVars_none hV
  simp only [List.append_nil] at hW'
  have hAA := hA
  rw [Tryz.params6] at hA hval hsz
  obtain ⟨v0, vs0, d0, ds0, p0, q0, hargs, rfl, rfl, h0, r0⟩ := trodAll_cons hA
  obtain ⟨v1, vs1, d1, ds1, p1, q1, rfl, rfl, rfl, h1, r1⟩ := trodAll_cons r0
  obtain ⟨rfl, rfl, rfl⟩ := trodAll_nil r1
  obtain rfl : args = #[v0, v1] := by simpa using congrArg List.toArray hargs
  obtain ⟨f0, cs0, rfl, a0⟩ := arg_fm (hval 0 24 _ rfl rfl) h0 (rd_arg hsz (j := 0) rfl rfl)
  obtain ⟨x1, xs1, rfl, a1⟩ := arg_dom (hval 1 27 _ rfl rfl) h1 (rd_arg hsz (j := 1) rfl rfl)
  refine (form_any (Here W) f0 cs0 x1 xs1 W a0 a1 (fun _ h => h) (tab_of_laid hL)).mono fun e W' ⟨he, hb⟩ => ?_
  subst he
  exact ⟨_, rfl, law_post hW' hAA rfl rfl (by kernel_rfl) (by kernel_rfl) hb⟩

theorem form_holds : Rows.DiagramFormSaid :=
  OpenClaim.holds_of_wide 6 Tryz.f6 rfl rfl rfl rfl rfl rfl rfl ⟨rfl, rfl, rfl, rfl, rfl⟩ rfl rfl rfl rfl rfl (by kernel_rfl) Tryz.func6 (by kernel_rfl)
    (of_decide_eq_true (by kernel_rfl)) (by unfold Func.isWrapper; rw [if_neg (of_decide_eq_false (by kernel_rfl))]; exact ⟨rfl, rfl⟩)
    (fun os started H enc _ => form_lifted os started H enc)

theorem form_card : Rows.DiagramFormCardSaid :=
  Claim7.holds_tied_plain_at .later [] [.data, .data, .data, .sentinel, .sentinel] true (true, "78984594f771543e7c6a528bcce2919cfdb226748e413a563341709c1c1b94d1") true
    form_holds (fun _ h => by cases h) (by kernel_rfl) (fun _ h => by cases h) diagramForm_row_tie rfl ⟨rfl, rfl⟩ (by kernel_rfl) rfl
    (fun f fn hf hfn => by
      obtain rfl : f = 6 := Option.some.inj ((show Tryz.prog.funcNamed "customhouse/customhouselaw26.DiagramForm" = some 6 by kernel_rfl).symm.trans hf) |>.symm
      obtain rfl : fn = Tryz.f6 := (Option.some.inj (Tryz.func6.symm.trans hfn)).symm
      exact ⟨by kernel_rfl, fun j t ht => by
        rw [Tryz.params6] at ht
        have hm : t ∈ [24, 27] := by simpa using Array.mem_of_getElem? ht
        have hall : ([24, 27].all fun u => !Tryz.prog.wantsStandIn u) = true := by kernel_rfl
        exact (show Tryz.prog.wantsStandIn t = false by simpa using List.all_eq_true.1 hall t hm)⟩)
    (by kernel_rfl)
end Go.Proofs.YtcigjmlileckhaaGreatDoor
