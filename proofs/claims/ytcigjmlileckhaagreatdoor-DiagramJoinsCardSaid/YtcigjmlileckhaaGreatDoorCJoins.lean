/- The walk of DiagramJoins (printed by mkW80.py). DiagramJoins: for every two formulas, domain and case, whatever they are: the law returns true, and the arguments read behind the call as before it. Conditions: the row's own (the listed variables of Go's library read as its text lays them: the card ties them). -/
import Derived.Test.YtcigjmlileckhaaGreatDoorM47
import Derived.Test.YtcigjmlileckhaaGreatDoorM35
import Derived.Test.YtcigjmlileckhaaGreatDoorM4
import Derived.Test.YtcigjmlileckhaaGreatDoorCards
import Derived.Test.YtcigjmlileckhaaGreatDoorTie
import Derived.SevenTiedAt
/- The walk of DiagramJoins (printed by mkW80.py). -/
namespace Go.Proofs.YtcigjmlileckhaaGreatDoor
open Go.RowKit
set_option maxRecDepth 100000 in
set_option maxHeartbeats 16000000 in
theorem joins_any (Z : Zone) (f h : Fm) (cs cs' : List Value) (vd vc : Value) (ds : List FactD) (c : List Int) (w : World) (hf : FmR Z w f cs) (hh : FmR Z w h cs') (hd : Facts Z w vd ds) (hc : Ints Z w vc c) (hz : ∀ b, Z b → b < w.heap.size) (htab : TabB w.heap.size w) :
  Calls Tryz.prog 8 #[.agg cs.toArray, .agg cs'.toArray, .agg #[vd], vc] w fun e w' => e = .returned (.bool true) ∧ Below w.heap.size w w' := by
 obtain ⟨A, cap, rfl⟩ := FmR.form hf
 obtain ⟨B, bcap, rfl⟩ := FmR.form hh
 obtain ⟨D, dcap, hvd, -, -, -⟩ := hd.open_
 subst hvd
 obtain ⟨C, ccap, hvc, -⟩ := hc.form
 subst hvc
 have HL := hid (Jw.start hf hh hd hc hz htab)
 clear hf hh hd hc hz htab
 go_enter Tryz.func8, Tryz.ntmps8
 go_wp2_with fail
 refine (head_any _ HL.out.tab).mono ?_
 rintro e w1 ⟨rfl, hb⟩
 replace HL := hid (HL.out.on hb)
 clear hb
 obtain ⟨f0, f1, f2, f3, f4, fl, g0, g1, g2, g3, g4, gl, d0, dl⟩ := HL.out.cells
 go_wp2_with fail
 refine (pair_any Z f h _ _ _ ds w1 HL.out.fm HL.out.gm HL.out.fs HL.out.zone HL.out.tab).mono ?_
 rintro e w2 ⟨hb, ⟨h1, h1', h2, h2', GA, gl1, gcap, GA', gl2, gcap', rfl, hn, hn'⟩ | ⟨GA, gl1, gcap, GA', gl2, gcap', rfl⟩⟩
 ·have hg1 : gl1 = (buildS ds f).1.length := by obtain ⟨_, _, e, -⟩ := hn.open_; injection e
  have hg2 : gl2 = (buildS ds h).1.length := by obtain ⟨_, _, e, -⟩ := hn'.open_; injection e
  subst hg1 hg2
  have hb' : Below w2.heap.size w2 ((w2.alloc (.cells #[.slice GA (buildS ds f).1.length gcap] 34)).alloc (.cells #[.slice GA' (buildS ds h).1.length gcap'] 34)) := below2 w2 _ _
  have HA := hid ((Dgm.new hn).on (below1 _ (.cells #[.slice GA' (buildS ds h).1.length gcap'] 34)))
  have HB := hid (Dgm.new (hn'.keep (.of_below (below1 w2 (.cells #[.slice GA (buildS ds f).1.length gcap] 34)))))
  rw [World.size_alloc] at HB
  replace HL := hid (HL.out.on (hb.trans (hb'.mono hb.size)))
  have S1 := hid h1
  have S2 := hid h1'
  have HBF := hid (show buildS ds f = ((buildS ds f).1, 0) from Prod.ext rfl h2)
  have HBH := hid (show buildS ds h = ((buildS ds h).1, 0) from Prod.ext rfl h2')
  clear h1 h1' h2 h2' hn hn' hb hb' f0 f1 f2 f3 f4 fl g0 g1 g2 g3 g4 gl d0 dl
  generalize (buildS ds f).1 = a at *
  generalize (buildS ds h).1 = b at *
  go_upto_region 3 with fail
  generalize (w2.alloc (.cells #[.slice GA a.length gcap] 34)).alloc (.cells #[.slice GA' b.length gcap'] 34) = w3 at *
  generalize w2.heap.size = ba at *
  obtain ⟨x, n, HX0⟩ : ∃ x n, Hid (andS ds a b = (x, n)) := ⟨(andS ds a b).1, (andS ds a b).2, hid rfl⟩
  have HY0 := hid (show andS ds b a = (x, n) from by rw [and_sym]; exact HX0.out)
  have HE := hid (show n = 0 ∨ (n = 2 ∧ 4000 < a.length * b.length) from by
   by_cases e : n = 0
   ·exact Or.inl e
   ·have := joins_err HBF.out HBH.out (by rw [HX0.out]; exact e)
    rw [HX0.out] at this
    exact Or.inr ⟨(Prod.mk.inj this.1).2, this.2.2⟩)
  have cHA : w3.cell? ⟨ba, 0, none⟩ = some (.slice GA a.length gcap) := HA.out.box.cell 0
  have lHA : ba < w3.heap.size := HA.out.box.lt
  have cHB : w3.cell? ⟨ba + 1, 0, none⟩ = some (.slice GA' b.length gcap') := HB.out.box.cell 0
  have lHB : ba + 1 < w3.heap.size := HB.out.box.lt
  have d0 : w3.cell? ⟨w.heap.size + 1 + 1, 0, none⟩ = some (.slice D ds.length dcap) := HL.out.db.cell 0
  have dl : w.heap.size + 1 + 1 < w3.heap.size := HL.out.db.lt
  go_wp2_with fail
  refine (and_gen HA.out.nod HB.out.nod (HL.out.fs.mono HL.out.zone) HL.out.tab HX0.out).mono ?_
  rintro e w4 ⟨XA, xcap, rfl, hn, hb⟩
  have hb' := hb.alloc hb.size (.cells #[.slice XA x.length xcap] 34)
  replace HL := hid (HL.out.on hb')
  replace HA := hid (HA.out.on hb')
  replace HB := hid (HB.out.on hb')
  have HX := hid (Dgm.new hn)
  clear hb hb' hn cHA lHA cHB lHB d0 dl
  go_upto_region 6 with fail
  generalize w4.alloc (.cells #[.slice XA x.length xcap] 34) = w5 at *
  generalize w4.heap.size = bx at *
  have cHA : w5.cell? ⟨ba, 0, none⟩ = some (.slice GA a.length gcap) := HA.out.box.cell 0
  have lHA : ba < w5.heap.size := HA.out.box.lt
  have cHB : w5.cell? ⟨ba + 1, 0, none⟩ = some (.slice GA' b.length gcap') := HB.out.box.cell 0
  have lHB : ba + 1 < w5.heap.size := HB.out.box.lt
  have d0 : w5.cell? ⟨w.heap.size + 1 + 1, 0, none⟩ = some (.slice D ds.length dcap) := HL.out.db.cell 0
  have dl : w.heap.size + 1 + 1 < w5.heap.size := HL.out.db.lt
  go_wp2_with fail
  refine (and_gen HB.out.nod HA.out.nod (HL.out.fs.mono HL.out.zone) HL.out.tab HY0.out).mono ?_
  rintro e w6 ⟨YA, ycap, rfl, hn, hb⟩
  have hb' := hb.alloc hb.size (.cells #[.slice YA x.length ycap] 34)
  replace HL := hid (HL.out.on hb')
  replace HA := hid (HA.out.on hb')
  replace HB := hid (HB.out.on hb')
  replace HX := hid (HX.out.on hb')
  have HY := hid (Dgm.new hn)
  clear hb hb' hn cHA lHA cHB lHB d0 dl
  go_upto_region 7 with fail
  generalize w6.alloc (.cells #[.slice YA x.length ycap] 34) = w7 at *
  generalize w6.heap.size = by_ at *
  have cHA : w7.cell? ⟨ba, 0, none⟩ = some (.slice GA a.length gcap) := HA.out.box.cell 0
  have lHA : ba < w7.heap.size := HA.out.box.lt
  have d0 : w7.cell? ⟨w.heap.size + 1 + 1, 0, none⟩ = some (.slice D ds.length dcap) := HL.out.db.cell 0
  have dl : w.heap.size + 1 + 1 < w7.heap.size := HL.out.db.lt
  go_wp2_with fail
  refine (not_law HA.out.nod).mono ?_
  rintro e w8 ⟨NA, ncap, rfl, hn, hb⟩
  have hb' := hb.alloc hb.size (.cells #[.slice NA (notD a).length ncap] 34)
  replace HL := hid (HL.out.on hb')
  replace HA := hid (HA.out.on hb')
  replace HB := hid (HB.out.on hb')
  replace HX := hid (HX.out.on hb')
  replace HY := hid (HY.out.on hb')
  have HN := hid (Dgm.new hn)
  clear hb hb' hn cHA lHA d0 dl
  go_upto_region 8 with fail
  generalize w8.alloc (.cells #[.slice NA (notD a).length ncap] 34) = w9 at *
  generalize w8.heap.size = bn at *
  have cHA : w9.cell? ⟨ba, 0, none⟩ = some (.slice GA a.length gcap) := HA.out.box.cell 0
  have lHA : ba < w9.heap.size := HA.out.box.lt
  have cHB : w9.cell? ⟨ba + 1, 0, none⟩ = some (.slice GA' b.length gcap') := HB.out.box.cell 0
  have lHB : ba + 1 < w9.heap.size := HB.out.box.lt
  have cHX : w9.cell? ⟨bx, 0, none⟩ = some (.slice XA x.length xcap) := HX.out.box.cell 0
  have lHX : bx < w9.heap.size := HX.out.box.lt
  have cHY : w9.cell? ⟨by_, 0, none⟩ = some (.slice YA x.length ycap) := HY.out.box.cell 0
  have lHY : by_ < w9.heap.size := HY.out.box.lt
  have d0 : w9.cell? ⟨w.heap.size + 1 + 1, 0, none⟩ = some (.slice D ds.length dcap) := HL.out.db.cell 0
  have dl : w.heap.size + 1 + 1 < w9.heap.size := HL.out.db.lt
  rcases HE.out with hn0 | ⟨hn2, hlen⟩
  ·subst hn0
   clear HE
   go_wp2_with fail
   refine (same_law HX.out.nod HY.out.nod rfl).mono ?_
   rintro e wa ⟨rfl, hb⟩
   replace HL := hid (HL.out.on hb)
   replace HA := hid (HA.out.on hb)
   replace HB := hid (HB.out.on hb)
   replace HX := hid (HX.out.on hb)
   replace HN := hid (HN.out.on hb)
   clear hb cHA lHA cHB lHB cHX lHX cHY lHY d0 dl
   obtain ⟨f0, f1, f2, f3, f4, fl, g0, g1, g2, g3, g4, gl, d0, dl⟩ := HL.out.cells
   go_upto_region 13 with fail
   have hb2 := below2 wa (.cells #[.int .i64 f.op, .string f.name, .int .i64 f.cmp, .int .i64 f.num, .slice A f.kids.length cap, .int .i64 h.op, .string h.name, .int .i64 h.cmp, .int .i64 h.num, .slice B h.kids.length bcap] 24) (.cells #[.int .i64 5, .string ⟨#[]⟩, .int .i64 0, .int .i64 0, .slice (some ⟨wa.heap.size, 0, none⟩) 2 2] 24)
   have HJ := hid (fm_two ((Blk.new wa 24 _).alloc (.cells #[.int .i64 5, .string ⟨#[]⟩, .int .i64 0, .int .i64 0, .slice (some ⟨wa.heap.size, 0, none⟩) 2 2] 24)) (FmR.keep (.of_below hb2) _ _ HL.out.fm) (FmR.keep (.of_below hb2) _ _ HL.out.gm))
   have HJB := hid (Blk.new' (wa.alloc (.cells #[.int .i64 f.op, .string f.name, .int .i64 f.cmp, .int .i64 f.num, .slice A f.kids.length cap, .int .i64 h.op, .string h.name, .int .i64 h.cmp, .int .i64 h.num, .slice B h.kids.length bcap] 24)) 24 #[.int .i64 5, .string ⟨#[]⟩, .int .i64 0, .int .i64 0, .slice (some ⟨wa.heap.size, 0, none⟩) 2 2] (n := wa.heap.size + 1) (by simp))
   replace HL := hid (HL.out.on hb2)
   replace HA := hid (HA.out.on hb2)
   replace HB := hid (HB.out.on hb2)
   replace HX := hid (HX.out.on hb2)
   replace HN := hid (HN.out.on hb2)
   clear hb2 f0 f1 f2 f3 f4 fl g0 g1 g2 g3 g4 gl d0 dl
   generalize (wa.alloc (.cells #[.int .i64 f.op, .string f.name, .int .i64 f.cmp, .int .i64 f.num, .slice A f.kids.length cap, .int .i64 h.op, .string h.name, .int .i64 h.cmp, .int .i64 h.num, .slice B h.kids.length bcap] 24)).alloc (.cells #[.int .i64 5, .string ⟨#[]⟩, .int .i64 0, .int .i64 0, .slice (some ⟨wa.heap.size, 0, none⟩) 2 2] 24) = wb at *
   generalize wa.heap.size = jr at *
   go_cut [91] from 83 to 91 (fun v91 wx => ∃ bv, v91 = .bool bv ∧ (bv = true → smallS (.mk 5 ⟨#[]⟩ 0 0 [f, h]) ds = true ∧ checkS ds (.mk 5 ⟨#[]⟩ 0 0 [f, h]) = 0) ∧ Below wb.heap.size wb wx)
   case first =>
    have j0 : wb.cell? ⟨jr + 1, 0, none⟩ = some (.int .i64 5) := HJB.out.cell 0
    have j1 : wb.cell? ⟨jr + 1, 1, none⟩ = some (.string ⟨#[]⟩) := HJB.out.cell 1
    have j2 : wb.cell? ⟨jr + 1, 2, none⟩ = some (.int .i64 0) := HJB.out.cell 2
    have j3 : wb.cell? ⟨jr + 1, 3, none⟩ = some (.int .i64 0) := HJB.out.cell 3
    have j4 : wb.cell? ⟨jr + 1, 4, none⟩ = some (.slice (some ⟨jr, 0, none⟩) 2 2) := HJB.out.cell 4
    have jl := HJB.out.lt
    have d0 : wb.cell? ⟨w.heap.size + 1 + 1, 0, none⟩ = some (.slice D ds.length dcap) := HL.out.db.cell 0
    have dl : w.heap.size + 1 + 1 < wb.heap.size := HL.out.db.lt
    have HS := hid (small_any _ _ _ _ _ ds wb HJ.out HL.out.fs)
    by_cases hs : smallS (.mk 5 ⟨#[]⟩ 0 0 [f, h]) ds = true
    ·rw [hs] at HS
     have H3 := hid hs
     clear hs
     go_wp2_with fail
     refine HS.out.mono ?_
     rintro e wc ⟨rfl, hb⟩
     replace HJ := hid (FmR.keep (.of_below hb) _ _ HJ.out)
     replace HJB := hid (HJB.out.below hb HJB.out.lt)
     replace HL := hid (HL.out.on hb)
     have HBB := hid hb
     clear hb HS j0 j1 j2 j3 j4 jl d0 dl
     have j0 : wc.cell? ⟨jr + 1, 0, none⟩ = some (.int .i64 5) := HJB.out.cell 0
     have j1 : wc.cell? ⟨jr + 1, 1, none⟩ = some (.string ⟨#[]⟩) := HJB.out.cell 1
     have j2 : wc.cell? ⟨jr + 1, 2, none⟩ = some (.int .i64 0) := HJB.out.cell 2
     have j3 : wc.cell? ⟨jr + 1, 3, none⟩ = some (.int .i64 0) := HJB.out.cell 3
     have j4 : wc.cell? ⟨jr + 1, 4, none⟩ = some (.slice (some ⟨jr, 0, none⟩) 2 2) := HJB.out.cell 4
     have jl := HJB.out.lt
     have d0 : wc.cell? ⟨w.heap.size + 1 + 1, 0, none⟩ = some (.slice D ds.length dcap) := HL.out.db.cell 0
     have dl : w.heap.size + 1 + 1 < wc.heap.size := HL.out.db.lt
     have HCK := hid (check_any (fun b => Z b ∨ b = jr) (.slice D ds.length dcap) ds _ _ wc HJ.out (HL.out.fs.mono fun _ h => Or.inl h) (by have := small_size H3.out; omega) (fun b (hb : Z b ∨ b = jr) => hb.elim (HL.out.zone b) fun e => by omega))
     by_cases hc : checkS ds (.mk 5 ⟨#[]⟩ 0 0 [f, h]) = 0
     ·rw [hc] at HCK
      have H4 := hid hc
      clear hc
      go_wp2_with fail
      refine HCK.out.mono ?_
      rintro e wd ⟨rfl, hb⟩
      go_wp2_with fail
      go_meet
      exact ⟨true, rfl, (fun _ => ⟨H3.out, H4.out⟩), HBB.out.trans (hb.mono HBB.out.size)⟩
     ·have e0 : (checkS ds (.mk 5 ⟨#[]⟩ 0 0 [f, h]) == 0) = false := by simpa using hc
      generalize checkS ds (.mk 5 ⟨#[]⟩ 0 0 [f, h]) = ck at *
      clear hc
      go_wp2_with fail
      refine HCK.out.mono ?_
      rintro e wd ⟨rfl, hb⟩
      go_wp2_with fail
      go_meet
      exact ⟨false, rfl, (fun h => by cases h), HBB.out.trans (hb.mono HBB.out.size)⟩
    ·have hs' : smallS (.mk 5 ⟨#[]⟩ 0 0 [f, h]) ds = false := by simpa using hs
     rw [hs'] at HS
     go_wp2_with fail
     refine HS.out.mono ?_
     rintro e wc ⟨rfl, hb⟩
     go_wp2_with fail
     go_meet
     exact ⟨false, rfl, (fun h => by cases h), hb⟩
   case rest =>
    obtain ⟨bv, rfl, hbv, hb⟩ := hcut
    replace HL := hid (HL.out.on hb)
    replace HA := hid (HA.out.on hb)
    replace HB := hid (HB.out.on hb)
    replace HX := hid (HX.out.on hb)
    replace HN := hid (HN.out.on hb)
    replace HJ := hid (FmR.keep (.of_below hb) _ _ HJ.out)
    replace HJB := hid (HJB.out.below hb HJB.out.lt)
    have HBV := hid hbv
    clear hb hbv
    go_upto_if 91 with fail
    go_cut [] from 83 to 113 (fun wy => Below wc.heap.size wc wy)
    case first =>
     cases bv
     ·go_wp2_with fail
      go_meet
      exact Below.refl _ _
     ·obtain ⟨h3, h4⟩ := HBV.out rfl
      have HBD := hid (build_any (fun b => Z b ∨ b = jr) Z (.slice D ds.length dcap) _ _ ds wc HJ.out (fun b (hb : Z b ∨ b = jr) => hb.elim (HL.out.zone b) fun e => by have := HJB.out.lt; omega) HL.out.fs HL.out.zone (by have := small_size h3; omega) HL.out.tab)
      have HP := hid (show (buildS ds (.mk 5 ⟨#[]⟩ 0 0 [f, h])).2 = 0 ∨ (buildS ds (.mk 5 ⟨#[]⟩ 0 0 [f, h])).2 = 2 from by
       by_cases e : (buildS ds (.mk 5 ⟨#[]⟩ 0 0 [f, h])).2 = 0
       ·exact Or.inl e
       ·exact Or.inr (joins_lim (build_ok HBF.out).1.dom h4 e))
      have HO := hid (fun z (hz : buildS ds (.mk 5 ⟨#[]⟩ 0 0 [f, h]) = (z, 0)) => joins_build HBF.out HBH.out HX0.out ⟨#[]⟩ 0 0 hz)
      clear h3 h4
      generalize buildS ds (.mk 5 ⟨#[]⟩ 0 0 [f, h]) = zm at *
      obtain ⟨z, m⟩ := zm
      have j0 : wc.cell? ⟨jr + 1, 0, none⟩ = some (.int .i64 5) := HJB.out.cell 0
      have j1 : wc.cell? ⟨jr + 1, 1, none⟩ = some (.string ⟨#[]⟩) := HJB.out.cell 1
      have j2 : wc.cell? ⟨jr + 1, 2, none⟩ = some (.int .i64 0) := HJB.out.cell 2
      have j3 : wc.cell? ⟨jr + 1, 3, none⟩ = some (.int .i64 0) := HJB.out.cell 3
      have j4 : wc.cell? ⟨jr + 1, 4, none⟩ = some (.slice (some ⟨jr, 0, none⟩) 2 2) := HJB.out.cell 4
      have jl := HJB.out.lt
      have d0 : wc.cell? ⟨w.heap.size + 1 + 1, 0, none⟩ = some (.slice D ds.length dcap) := HL.out.db.cell 0
      have dl : w.heap.size + 1 + 1 < wc.heap.size := HL.out.db.lt
      go_wp2_with fail
      refine HBD.out.mono ?_
      rintro e wd ⟨v3, rfl, hn, hb⟩
      obtain ⟨ZA, zcap, hv3, -, -, -⟩ := hn.open_
      subst hv3
      have hb' := hb.alloc hb.size (.cells #[.slice ZA z.length zcap] 34)
      have HZ := hid (Dgm.new hn)
      replace HX := hid (HX.out.on hb')
      have HBB := hid hb'
      clear hb hb' hn HBD j0 j1 j2 j3 j4 jl d0 dl
      go_upto_region 15 with fail
      generalize wd.alloc (.cells #[.slice ZA z.length zcap] 34) = we at *
      generalize wd.heap.size = bz at *
      have cX : we.cell? ⟨bx, 0, none⟩ = some (.slice XA x.length xcap) := HX.out.box.cell 0
      have lX := HX.out.box.lt
      have cZ : we.cell? ⟨bz, 0, none⟩ = some (.slice ZA z.length zcap) := HZ.out.box.cell 0
      have lZ := HZ.out.box.lt
      rcases HP.out with hm | hm
      ·have hm : m = 0 := hm
       subst hm
       have hxz : x = z := HO.out z rfl
       subst hxz
       clear hm HP HO
       go_wp2_with fail
       refine (same_law HX.out.nod HZ.out.nod rfl).mono ?_
       rintro e wf ⟨rfl, hb⟩
       go_wp2_with fail
       go_meet
       exact HBB.out.trans (hb.mono HBB.out.size)
      ·have hm : m = 2 := hm
       subst hm
       clear hm HP HO
       go_wp2_with fail
       go_meet
       exact HBB.out
    case rest =>
     rename World => wy
     replace HL := hid (HL.out.on hcut)
     replace HA := hid (HA.out.on hcut)
     replace HB := hid (HB.out.on hcut)
     replace HX := hid (HX.out.on hcut)
     replace HN := hid (HN.out.on hcut)
     clear hcut HJ HJB HBV
     go_upto_region 17 with fail
     have HC := hid (fun (W : World) (hW : Below wy.heap.size wy W) => (show W.cell? ⟨w.heap.size + 1 + 1, 0, none⟩ = some (.slice D ds.length dcap) ∧ W.cell? ⟨bn, 0, none⟩ = some (.slice NA (notD a).length ncap) ∧ W.cell? ⟨ba, 0, none⟩ = some (.slice GA a.length gcap) ∧ W.cell? ⟨bx, 0, none⟩ = some (.slice XA x.length xcap) ∧ W.cell? ⟨ba + 1, 0, none⟩ = some (.slice GA' b.length gcap') from ⟨(HL.out.on hW).db.cell 0, (HN.out.on hW).box.cell 0, (HA.out.on hW).box.cell 0, (HX.out.on hW).box.cell 0, (HB.out.on hW).box.cell 0⟩))
     have HFT := hid (fun W (hW : Below wy.heap.size wy W) => factFits_any Z (.slice D ds.length dcap) (.slice C c.length ccap) ds c W (HL.out.on hW).fs (HL.out.on hW).ci)
     have HHN := hid (fun W (hW : Below wy.heap.size wy W) => dholds_any (fun _ => True) (.slice NA (notD a).length ncap) (.slice C c.length ccap) (notD a) c W (HN.out.on hW).nod ((HL.out.on hW).ci.mono fun _ _ => trivial))
     have HHA := hid (fun W (hW : Below wy.heap.size wy W) => dholds_any (fun _ => True) (.slice GA a.length gcap) (.slice C c.length ccap) a c W (HA.out.on hW).nod ((HL.out.on hW).ci.mono fun _ _ => trivial))
     have HHX := hid (fun W (hW : Below wy.heap.size wy W) => dholds_any (fun _ => True) (.slice XA x.length xcap) (.slice C c.length ccap) x c W (HX.out.on hW).nod ((HL.out.on hW).ci.mono fun _ _ => trivial))
     have HHB := hid (fun W (hW : Below wy.heap.size wy W) => dholds_any (fun _ => True) (.slice GA' b.length gcap') (.slice C c.length ccap) b c W (HB.out.on hW).nod ((HL.out.on hW).ci.mono fun _ _ => trivial))
     by_cases hft : fits ds c = true
     ·rw [hft] at HFT
      have hv := joins_holds HBF.out HBH.out HX0.out hft
      rw [hv.1] at HHN
      rw [hv.2] at HHX
      clear hv hft
      generalize holdsD a c a.length 0 = ua at *
      generalize holdsD b c b.length 0 = ub at *
      cases ua
      ·simp only [Bool.not_false, Bool.false_and] at HHN HHX
       refine wp_region_S 30 (fun W => Below wy.heap.size wy W) (by kernel_rfl) ?_
       have hS : (fun W => Below wy.heap.size wy W) wy.drew := (Below.refl _ _).drew
       (refine wpAnyS_take0 (i := 0) (v := ?_) rfl (by kernel_rfl) (by kernel_rfl) (fun _ _ _ h => h) (Or.inl ⟨by kernel_rfl, ?_⟩) (Or.inr hS) ?_; rotate_left; (intro w hSw; clear hSw; go_simp; (try with_reducible rfl)); ((try simp only [Act.put]); (try simp only [nrA]); (try simp only [nrB]); (try simp only [nrC])))
       (refine wpAnyS_take0 (i := 1) (v := ?_) rfl (by kernel_rfl) (by kernel_rfl) (fun _ _ _ h => h) (Or.inl ⟨by kernel_rfl, ?_⟩) (Or.inr hS) ?_; rotate_left; (intro w hSw; clear hSw; go_simp; (try with_reducible rfl)); ((try simp only [Act.put]); (try simp only [nrA]); (try simp only [nrB]); (try simp only [nrC])))
       (refine wpAnyS_take (i := 2) (v := ?_) rfl (by kernel_rfl) (by kernel_rfl) (fun _ _ _ h => h) (Or.inl ⟨by kernel_rfl, ?_⟩) hS ?_; rotate_left; (intro w hSw; have hkw := hSw; obtain ⟨d0, cN, cA, cX, cB⟩ := HC.out _ hkw; clear hkw; go_simp; (try with_reducible rfl)); ((try simp only [Act.put]); (try simp only [nrA]); (try simp only [nrB]); (try simp only [nrC])))
       (refine wpAnyS_take0 (i := 3) (v := ?_) rfl (by kernel_rfl) (by kernel_rfl) (fun _ _ _ h => h) (Or.inl ⟨by kernel_rfl, ?_⟩) (Or.inr hS) ?_; rotate_left; (intro w hSw; clear hSw; go_simp; (try with_reducible rfl)); ((try simp only [Act.put]); (try simp only [nrA]); (try simp only [nrB]); (try simp only [nrC])))
       refine wpAnyS_oneG (i := 4) (by kernel_rfl) rfl (by kernel_rfl) (fun K hK => ?_)
       go_wp2_with fail
       refine (HFT.out _ hS).mono ?_
       rintro e y1 ⟨rfl, hb⟩
       have hb6 : Below wy.heap.size wy y1 := hS.trans (hb.mono hS.size)
       refine hK _ _ (Or.inr hb6) ?_
       clear hK K hb hS
       ((try simp only [Act.put]); (try simp only [nrA]); (try simp only [nrB]); (try simp only [nrC]))
       have hS : (fun W => Below wy.heap.size wy W) y1 := hb6
       clear hb6
       (refine wpAnyS_take0 (i := 5) (v := ?_) rfl (by kernel_rfl) (by kernel_rfl) (fun _ _ _ h => h) (Or.inl ⟨by kernel_rfl, ?_⟩) (Or.inr hS) ?_; rotate_left; (intro w hSw; clear hSw; go_simp; (try with_reducible rfl)); ((try simp only [Act.put]); (try simp only [nrA]); (try simp only [nrB]); (try simp only [nrC])))
       (refine wpAnyS_take0 (i := 6) (v := ?_) rfl (by kernel_rfl) (by kernel_rfl) (fun _ _ _ h => h) (Or.inl ⟨by kernel_rfl, ?_⟩) (Or.inr hS) ?_; rotate_left; (intro w hSw; clear hSw; go_simp; (try with_reducible rfl)); ((try simp only [Act.put]); (try simp only [nrA]); (try simp only [nrB]); (try simp only [nrC])))
       change wpAnyS _ _ _ _ _ _ _ _ (Act.mk _ _) _
       ((try simp only [Act.put]); (try simp only [nrA]); (try simp only [nrB]); (try simp only [nrC]))
       (refine wpAnyS_take (i := 7) (v := ?_) rfl (by kernel_rfl) (by kernel_rfl) (fun _ _ _ h => h) (Or.inl ⟨by kernel_rfl, ?_⟩) hS ?_; rotate_left; (intro w hSw; have hkw := hSw; obtain ⟨d0, cN, cA, cX, cB⟩ := HC.out _ hkw; clear hkw; go_simp; (try with_reducible rfl)); ((try simp only [Act.put]); (try simp only [nrA]); (try simp only [nrB]); (try simp only [nrC])))
       (refine wpAnyS_take0 (i := 8) (v := ?_) rfl (by kernel_rfl) (by kernel_rfl) (fun _ _ _ h => h) (Or.inl ⟨by kernel_rfl, ?_⟩) (Or.inr hS) ?_; rotate_left; (intro w hSw; clear hSw; go_simp; (try with_reducible rfl)); ((try simp only [Act.put]); (try simp only [nrA]); (try simp only [nrB]); (try simp only [nrC])))
       (refine wpAnyS_take (i := 10) (v := ?_) rfl (by kernel_rfl) (by kernel_rfl) (fun _ _ _ h => h) (Or.inl ⟨by kernel_rfl, ?_⟩) hS ?_; rotate_left; (intro w hSw; have hkw := hSw; obtain ⟨d0, cN, cA, cX, cB⟩ := HC.out _ hkw; clear hkw; go_simp; (try with_reducible rfl)); ((try simp only [Act.put]); (try simp only [nrA]); (try simp only [nrB]); (try simp only [nrC])))
       (refine wpAnyS_take0 (i := 11) (v := ?_) rfl (by kernel_rfl) (by kernel_rfl) (fun _ _ _ h => h) (Or.inl ⟨by kernel_rfl, ?_⟩) (Or.inr hS) ?_; rotate_left; (intro w hSw; clear hSw; go_simp; (try with_reducible rfl)); ((try simp only [Act.put]); (try simp only [nrA]); (try simp only [nrB]); (try simp only [nrC])))
       refine wpAnyS_oneG (i := 9) (by kernel_rfl) rfl (by kernel_rfl) (fun K hK => ?_)
       go_wp2_with fail
       refine (HHN.out _ hS).mono ?_
       rintro e y2 ⟨rfl, hb⟩
       have hb6 : Below wy.heap.size wy y2 := hS.trans (hb.mono hS.size)
       refine hK _ _ (Or.inr hb6) ?_
       clear hK K hb hS
       ((try simp only [Act.put]); (try simp only [nrA]); (try simp only [nrB]); (try simp only [nrC]))
       have hS : (fun W => Below wy.heap.size wy W) y2 := hb6
       clear hb6
       refine wpAnyS_oneG (i := 12) (by kernel_rfl) rfl (by kernel_rfl) (fun K hK => ?_)
       go_wp2_with fail
       refine (HHA.out _ hS).mono ?_
       rintro e y3 ⟨rfl, hb⟩
       have hb6 : Below wy.heap.size wy y3 := hS.trans (hb.mono hS.size)
       refine hK _ _ (Or.inr hb6) ?_
       clear hK K hb hS
       ((try simp only [Act.put]); (try simp only [nrA]); (try simp only [nrB]); (try simp only [nrC]))
       have hS : (fun W => Below wy.heap.size wy W) y3 := hb6
       clear hb6
       (refine wpAnyS_take0 (i := 13) (v := ?_) rfl (by kernel_rfl) (by kernel_rfl) (fun _ _ _ h => h) (Or.inl ⟨by kernel_rfl, ?_⟩) (Or.inr hS) ?_; rotate_left; (intro w hSw; clear hSw; go_simp; (try with_reducible rfl)); ((try simp only [Act.put]); (try simp only [nrA]); (try simp only [nrB]); (try simp only [nrC])))
       (refine wpAnyS_take0 (i := 14) (v := ?_) rfl (by kernel_rfl) (by kernel_rfl) (fun _ _ _ h => h) (Or.inl ⟨by kernel_rfl, ?_⟩) (Or.inr hS) ?_; rotate_left; (intro w hSw; clear hSw; go_simp; (try with_reducible rfl)); ((try simp only [Act.put]); (try simp only [nrA]); (try simp only [nrB]); (try simp only [nrC])))
       (refine wpAnyS_take (i := 15) (v := ?_) rfl (by kernel_rfl) (by kernel_rfl) (fun _ _ _ h => h) (Or.inl ⟨by kernel_rfl, ?_⟩) hS ?_; rotate_left; (intro w hSw; have hkw := hSw; obtain ⟨d0, cN, cA, cX, cB⟩ := HC.out _ hkw; clear hkw; go_simp; (try with_reducible rfl)); ((try simp only [Act.put]); (try simp only [nrA]); (try simp only [nrB]); (try simp only [nrC])))
       (refine wpAnyS_take0 (i := 16) (v := ?_) rfl (by kernel_rfl) (by kernel_rfl) (fun _ _ _ h => h) (Or.inl ⟨by kernel_rfl, ?_⟩) (Or.inr hS) ?_; rotate_left; (intro w hSw; clear hSw; go_simp; (try with_reducible rfl)); ((try simp only [Act.put]); (try simp only [nrA]); (try simp only [nrB]); (try simp only [nrC])))
       (refine wpAnyS_take (i := 18) (v := ?_) rfl (by kernel_rfl) (by kernel_rfl) (fun _ _ _ h => h) (Or.inl ⟨by kernel_rfl, ?_⟩) hS ?_; rotate_left; (intro w hSw; have hkw := hSw; obtain ⟨d0, cN, cA, cX, cB⟩ := HC.out _ hkw; clear hkw; go_simp; (try with_reducible rfl)); ((try simp only [Act.put]); (try simp only [nrA]); (try simp only [nrB]); (try simp only [nrC])))
       (refine wpAnyS_take0 (i := 19) (v := ?_) rfl (by kernel_rfl) (by kernel_rfl) (fun _ _ _ h => h) (Or.inl ⟨by kernel_rfl, ?_⟩) (Or.inr hS) ?_; rotate_left; (intro w hSw; clear hSw; go_simp; (try with_reducible rfl)); ((try simp only [Act.put]); (try simp only [nrA]); (try simp only [nrB]); (try simp only [nrC])))
       refine wpAnyS_oneG (i := 17) (by kernel_rfl) rfl (by kernel_rfl) (fun K hK => ?_)
       go_wp2_with fail
       refine (HHX.out _ hS).mono ?_
       rintro e y4 ⟨rfl, hb⟩
       have hb6 : Below wy.heap.size wy y4 := hS.trans (hb.mono hS.size)
       refine hK _ _ (Or.inr hb6) ?_
       clear hK K hb hS
       ((try simp only [Act.put]); (try simp only [nrA]); (try simp only [nrB]); (try simp only [nrC]))
       have hS : (fun W => Below wy.heap.size wy W) y4 := hb6
       clear hb6
       refine wpAnyS_oneG (i := 20) (by kernel_rfl) rfl (by kernel_rfl) (fun K hK => ?_)
       go_wp2_with fail
       refine (HHA.out _ hS).mono ?_
       rintro e y5 ⟨rfl, hb⟩
       have hb6 : Below wy.heap.size wy y5 := hS.trans (hb.mono hS.size)
       refine hK _ _ (Or.inr hb6) ?_
       clear hK K hb hS
       ((try simp only [Act.put]); (try simp only [nrA]); (try simp only [nrB]); (try simp only [nrC]))
       have hS : (fun W => Below wy.heap.size wy W) y5 := hb6
       clear hb6
       (refine wpAnyS_take0 (i := 21) (v := ?_) rfl (by kernel_rfl) (by kernel_rfl) (fun _ _ _ h => h) (Or.inl ⟨by kernel_rfl, ?_⟩) (Or.inr hS) ?_; rotate_left; (intro w hSw; clear hSw; go_simp; (try with_reducible rfl)); ((try simp only [Act.put]); (try simp only [nrA]); (try simp only [nrB]); (try simp only [nrC])))
       change wpAnyS _ _ _ _ _ _ _ _ (Act.mk _ _) _
       ((try simp only [Act.put]); (try simp only [nrA]); (try simp only [nrB]); (try simp only [nrC]))
       refine wpAnyS_skip (i := 22) rfl (by kernel_rfl) (by kernel_rfl) (fun _ _ _ h => h) (by kernel_rfl) (by kernel_rfl) (Or.inr hS) ?_
       refine wpAnyS_skip (i := 23) rfl (by kernel_rfl) (by kernel_rfl) (fun _ _ _ h => h) (by kernel_rfl) (by kernel_rfl) (Or.inr hS) ?_
       refine wpAnyS_skip (i := 24) rfl (by kernel_rfl) (by kernel_rfl) (fun _ _ _ h => h) (by kernel_rfl) (by kernel_rfl) (Or.inr hS) ?_
       (refine wpAnyS_take0 (i := 25) (v := ?_) rfl (by kernel_rfl) (by kernel_rfl) (fun _ _ _ h => h) (Or.inl ⟨by kernel_rfl, ?_⟩) (Or.inr hS) ?_; rotate_left; (intro w hSw; clear hSw; go_simp; (try with_reducible rfl)); ((try simp only [Act.put]); (try simp only [nrA]); (try simp only [nrB]); (try simp only [nrC])))
       (refine wpAnyS_take0 (i := 26) (v := ?_) rfl (by kernel_rfl) (by kernel_rfl) (fun _ _ _ h => h) (Or.inl ⟨by kernel_rfl, ?_⟩) (Or.inr hS) ?_; rotate_left; (intro w hSw; clear hSw; go_simp; (try with_reducible rfl)); ((try simp only [Act.put]); (try simp only [nrA]); (try simp only [nrB]); (try simp only [nrC])))
       (refine wpAnyS_take0 (i := 27) (v := ?_) rfl (by kernel_rfl) (by kernel_rfl) (fun _ _ _ h => h) (Or.inl ⟨by kernel_rfl, ?_⟩) (Or.inr hS) ?_; rotate_left; (intro w hSw; clear hSw; go_simp; (try with_reducible rfl)); ((try simp only [Act.put]); (try simp only [nrA]); (try simp only [nrB]); (try simp only [nrC])))
       (refine wpAnyS_take0 (i := 28) (v := ?_) rfl (by kernel_rfl) (by kernel_rfl) (fun _ _ _ h => h) (Or.inl ⟨by kernel_rfl, ?_⟩) (Or.inr hS) ?_; rotate_left; (intro w hSw; clear hSw; go_simp; (try with_reducible rfl)); ((try simp only [Act.put]); (try simp only [nrA]); (try simp only [nrB]); (try simp only [nrC])))
       (refine wpAnyS_take0 (i := 29) (v := ?_) rfl (by kernel_rfl) (by kernel_rfl) (fun _ _ _ h => h) (Or.inl ⟨by kernel_rfl, ?_⟩) (Or.inr hS) ?_; rotate_left; (intro w hSw; clear hSw; go_simp; (try with_reducible rfl)); ((try simp only [Act.put]); (try simp only [nrA]); (try simp only [nrB]); (try simp only [nrC])))
       refine wpAnyS_one (i := 30) (by kernel_rfl) rfl rfl (fun K hK => ?_)
       go_wp2_with fail
       refine hK _ _ (Or.inl rfl) ?_
       clear hK K
       ((try simp only [Act.put]); (try simp only [nrA]); (try simp only [nrB]); (try simp only [nrC]))
       refine wpAnyS_done (by kernel_rfl) ?_ _
       replace HL := hid (HL.out.on hS)
       clear hS
       go_wp2_with fail
       exact bodyPost_ret (v := .bool true) (by simp [results, Tryz.results8, go_sem]) rfl ⟨rfl, HL.out.below⟩
      ·simp only [Bool.not_true, Bool.true_and] at HHN HHX
       cases ub
       ·refine wp_region_S 30 (fun W => Below wy.heap.size wy W) (by kernel_rfl) ?_
        have hS : (fun W => Below wy.heap.size wy W) wy.drew := (Below.refl _ _).drew
        (refine wpAnyS_take0 (i := 0) (v := ?_) rfl (by kernel_rfl) (by kernel_rfl) (fun _ _ _ h => h) (Or.inl ⟨by kernel_rfl, ?_⟩) (Or.inr hS) ?_; rotate_left; (intro w hSw; clear hSw; go_simp; (try with_reducible rfl)); ((try simp only [Act.put]); (try simp only [nrA]); (try simp only [nrB]); (try simp only [nrC])))
        (refine wpAnyS_take0 (i := 1) (v := ?_) rfl (by kernel_rfl) (by kernel_rfl) (fun _ _ _ h => h) (Or.inl ⟨by kernel_rfl, ?_⟩) (Or.inr hS) ?_; rotate_left; (intro w hSw; clear hSw; go_simp; (try with_reducible rfl)); ((try simp only [Act.put]); (try simp only [nrA]); (try simp only [nrB]); (try simp only [nrC])))
        (refine wpAnyS_take (i := 2) (v := ?_) rfl (by kernel_rfl) (by kernel_rfl) (fun _ _ _ h => h) (Or.inl ⟨by kernel_rfl, ?_⟩) hS ?_; rotate_left; (intro w hSw; have hkw := hSw; obtain ⟨d0, cN, cA, cX, cB⟩ := HC.out _ hkw; clear hkw; go_simp; (try with_reducible rfl)); ((try simp only [Act.put]); (try simp only [nrA]); (try simp only [nrB]); (try simp only [nrC])))
        (refine wpAnyS_take0 (i := 3) (v := ?_) rfl (by kernel_rfl) (by kernel_rfl) (fun _ _ _ h => h) (Or.inl ⟨by kernel_rfl, ?_⟩) (Or.inr hS) ?_; rotate_left; (intro w hSw; clear hSw; go_simp; (try with_reducible rfl)); ((try simp only [Act.put]); (try simp only [nrA]); (try simp only [nrB]); (try simp only [nrC])))
        refine wpAnyS_oneG (i := 4) (by kernel_rfl) rfl (by kernel_rfl) (fun K hK => ?_)
        go_wp2_with fail
        refine (HFT.out _ hS).mono ?_
        rintro e y1 ⟨rfl, hb⟩
        have hb6 : Below wy.heap.size wy y1 := hS.trans (hb.mono hS.size)
        refine hK _ _ (Or.inr hb6) ?_
        clear hK K hb hS
        ((try simp only [Act.put]); (try simp only [nrA]); (try simp only [nrB]); (try simp only [nrC]))
        have hS : (fun W => Below wy.heap.size wy W) y1 := hb6
        clear hb6
        (refine wpAnyS_take0 (i := 5) (v := ?_) rfl (by kernel_rfl) (by kernel_rfl) (fun _ _ _ h => h) (Or.inl ⟨by kernel_rfl, ?_⟩) (Or.inr hS) ?_; rotate_left; (intro w hSw; clear hSw; go_simp; (try with_reducible rfl)); ((try simp only [Act.put]); (try simp only [nrA]); (try simp only [nrB]); (try simp only [nrC])))
        (refine wpAnyS_take0 (i := 6) (v := ?_) rfl (by kernel_rfl) (by kernel_rfl) (fun _ _ _ h => h) (Or.inl ⟨by kernel_rfl, ?_⟩) (Or.inr hS) ?_; rotate_left; (intro w hSw; clear hSw; go_simp; (try with_reducible rfl)); ((try simp only [Act.put]); (try simp only [nrA]); (try simp only [nrB]); (try simp only [nrC])))
        change wpAnyS _ _ _ _ _ _ _ _ (Act.mk _ _) _
        ((try simp only [Act.put]); (try simp only [nrA]); (try simp only [nrB]); (try simp only [nrC]))
        (refine wpAnyS_take (i := 7) (v := ?_) rfl (by kernel_rfl) (by kernel_rfl) (fun _ _ _ h => h) (Or.inl ⟨by kernel_rfl, ?_⟩) hS ?_; rotate_left; (intro w hSw; have hkw := hSw; obtain ⟨d0, cN, cA, cX, cB⟩ := HC.out _ hkw; clear hkw; go_simp; (try with_reducible rfl)); ((try simp only [Act.put]); (try simp only [nrA]); (try simp only [nrB]); (try simp only [nrC])))
        (refine wpAnyS_take0 (i := 8) (v := ?_) rfl (by kernel_rfl) (by kernel_rfl) (fun _ _ _ h => h) (Or.inl ⟨by kernel_rfl, ?_⟩) (Or.inr hS) ?_; rotate_left; (intro w hSw; clear hSw; go_simp; (try with_reducible rfl)); ((try simp only [Act.put]); (try simp only [nrA]); (try simp only [nrB]); (try simp only [nrC])))
        (refine wpAnyS_take (i := 10) (v := ?_) rfl (by kernel_rfl) (by kernel_rfl) (fun _ _ _ h => h) (Or.inl ⟨by kernel_rfl, ?_⟩) hS ?_; rotate_left; (intro w hSw; have hkw := hSw; obtain ⟨d0, cN, cA, cX, cB⟩ := HC.out _ hkw; clear hkw; go_simp; (try with_reducible rfl)); ((try simp only [Act.put]); (try simp only [nrA]); (try simp only [nrB]); (try simp only [nrC])))
        (refine wpAnyS_take0 (i := 11) (v := ?_) rfl (by kernel_rfl) (by kernel_rfl) (fun _ _ _ h => h) (Or.inl ⟨by kernel_rfl, ?_⟩) (Or.inr hS) ?_; rotate_left; (intro w hSw; clear hSw; go_simp; (try with_reducible rfl)); ((try simp only [Act.put]); (try simp only [nrA]); (try simp only [nrB]); (try simp only [nrC])))
        refine wpAnyS_oneG (i := 9) (by kernel_rfl) rfl (by kernel_rfl) (fun K hK => ?_)
        go_wp2_with fail
        refine (HHN.out _ hS).mono ?_
        rintro e y2 ⟨rfl, hb⟩
        have hb6 : Below wy.heap.size wy y2 := hS.trans (hb.mono hS.size)
        refine hK _ _ (Or.inr hb6) ?_
        clear hK K hb hS
        ((try simp only [Act.put]); (try simp only [nrA]); (try simp only [nrB]); (try simp only [nrC]))
        have hS : (fun W => Below wy.heap.size wy W) y2 := hb6
        clear hb6
        refine wpAnyS_oneG (i := 12) (by kernel_rfl) rfl (by kernel_rfl) (fun K hK => ?_)
        go_wp2_with fail
        refine (HHA.out _ hS).mono ?_
        rintro e y3 ⟨rfl, hb⟩
        have hb6 : Below wy.heap.size wy y3 := hS.trans (hb.mono hS.size)
        refine hK _ _ (Or.inr hb6) ?_
        clear hK K hb hS
        ((try simp only [Act.put]); (try simp only [nrA]); (try simp only [nrB]); (try simp only [nrC]))
        have hS : (fun W => Below wy.heap.size wy W) y3 := hb6
        clear hb6
        (refine wpAnyS_take0 (i := 13) (v := ?_) rfl (by kernel_rfl) (by kernel_rfl) (fun _ _ _ h => h) (Or.inl ⟨by kernel_rfl, ?_⟩) (Or.inr hS) ?_; rotate_left; (intro w hSw; clear hSw; go_simp; (try with_reducible rfl)); ((try simp only [Act.put]); (try simp only [nrA]); (try simp only [nrB]); (try simp only [nrC])))
        (refine wpAnyS_take0 (i := 14) (v := ?_) rfl (by kernel_rfl) (by kernel_rfl) (fun _ _ _ h => h) (Or.inl ⟨by kernel_rfl, ?_⟩) (Or.inr hS) ?_; rotate_left; (intro w hSw; clear hSw; go_simp; (try with_reducible rfl)); ((try simp only [Act.put]); (try simp only [nrA]); (try simp only [nrB]); (try simp only [nrC])))
        (refine wpAnyS_take (i := 15) (v := ?_) rfl (by kernel_rfl) (by kernel_rfl) (fun _ _ _ h => h) (Or.inl ⟨by kernel_rfl, ?_⟩) hS ?_; rotate_left; (intro w hSw; have hkw := hSw; obtain ⟨d0, cN, cA, cX, cB⟩ := HC.out _ hkw; clear hkw; go_simp; (try with_reducible rfl)); ((try simp only [Act.put]); (try simp only [nrA]); (try simp only [nrB]); (try simp only [nrC])))
        (refine wpAnyS_take0 (i := 16) (v := ?_) rfl (by kernel_rfl) (by kernel_rfl) (fun _ _ _ h => h) (Or.inl ⟨by kernel_rfl, ?_⟩) (Or.inr hS) ?_; rotate_left; (intro w hSw; clear hSw; go_simp; (try with_reducible rfl)); ((try simp only [Act.put]); (try simp only [nrA]); (try simp only [nrB]); (try simp only [nrC])))
        (refine wpAnyS_take (i := 18) (v := ?_) rfl (by kernel_rfl) (by kernel_rfl) (fun _ _ _ h => h) (Or.inl ⟨by kernel_rfl, ?_⟩) hS ?_; rotate_left; (intro w hSw; have hkw := hSw; obtain ⟨d0, cN, cA, cX, cB⟩ := HC.out _ hkw; clear hkw; go_simp; (try with_reducible rfl)); ((try simp only [Act.put]); (try simp only [nrA]); (try simp only [nrB]); (try simp only [nrC])))
        (refine wpAnyS_take0 (i := 19) (v := ?_) rfl (by kernel_rfl) (by kernel_rfl) (fun _ _ _ h => h) (Or.inl ⟨by kernel_rfl, ?_⟩) (Or.inr hS) ?_; rotate_left; (intro w hSw; clear hSw; go_simp; (try with_reducible rfl)); ((try simp only [Act.put]); (try simp only [nrA]); (try simp only [nrB]); (try simp only [nrC])))
        refine wpAnyS_oneG (i := 17) (by kernel_rfl) rfl (by kernel_rfl) (fun K hK => ?_)
        go_wp2_with fail
        refine (HHX.out _ hS).mono ?_
        rintro e y4 ⟨rfl, hb⟩
        have hb6 : Below wy.heap.size wy y4 := hS.trans (hb.mono hS.size)
        refine hK _ _ (Or.inr hb6) ?_
        clear hK K hb hS
        ((try simp only [Act.put]); (try simp only [nrA]); (try simp only [nrB]); (try simp only [nrC]))
        have hS : (fun W => Below wy.heap.size wy W) y4 := hb6
        clear hb6
        refine wpAnyS_oneG (i := 20) (by kernel_rfl) rfl (by kernel_rfl) (fun K hK => ?_)
        go_wp2_with fail
        refine (HHA.out _ hS).mono ?_
        rintro e y5 ⟨rfl, hb⟩
        have hb6 : Below wy.heap.size wy y5 := hS.trans (hb.mono hS.size)
        refine hK _ _ (Or.inr hb6) ?_
        clear hK K hb hS
        ((try simp only [Act.put]); (try simp only [nrA]); (try simp only [nrB]); (try simp only [nrC]))
        have hS : (fun W => Below wy.heap.size wy W) y5 := hb6
        clear hb6
        (refine wpAnyS_take0 (i := 21) (v := ?_) rfl (by kernel_rfl) (by kernel_rfl) (fun _ _ _ h => h) (Or.inl ⟨by kernel_rfl, ?_⟩) (Or.inr hS) ?_; rotate_left; (intro w hSw; clear hSw; go_simp; (try with_reducible rfl)); ((try simp only [Act.put]); (try simp only [nrA]); (try simp only [nrB]); (try simp only [nrC])))
        change wpAnyS _ _ _ _ _ _ _ _ (Act.mk _ _) _
        ((try simp only [Act.put]); (try simp only [nrA]); (try simp only [nrB]); (try simp only [nrC]))
        (refine wpAnyS_take (i := 22) (v := ?_) rfl (by kernel_rfl) (by kernel_rfl) (fun _ _ _ h => h) (Or.inl ⟨by kernel_rfl, ?_⟩) hS ?_; rotate_left; (intro w hSw; have hkw := hSw; obtain ⟨d0, cN, cA, cX, cB⟩ := HC.out _ hkw; clear hkw; go_simp; (try with_reducible rfl)); ((try simp only [Act.put]); (try simp only [nrA]); (try simp only [nrB]); (try simp only [nrC])))
        (refine wpAnyS_take0 (i := 23) (v := ?_) rfl (by kernel_rfl) (by kernel_rfl) (fun _ _ _ h => h) (Or.inl ⟨by kernel_rfl, ?_⟩) (Or.inr hS) ?_; rotate_left; (intro w hSw; clear hSw; go_simp; (try with_reducible rfl)); ((try simp only [Act.put]); (try simp only [nrA]); (try simp only [nrB]); (try simp only [nrC])))
        refine wpAnyS_oneG (i := 24) (by kernel_rfl) rfl (by kernel_rfl) (fun K hK => ?_)
        go_wp2_with fail
        refine (HHB.out _ hS).mono ?_
        rintro e y6 ⟨rfl, hb⟩
        have hb6 : Below wy.heap.size wy y6 := hS.trans (hb.mono hS.size)
        refine hK _ _ (Or.inr hb6) ?_
        clear hK K hb hS
        ((try simp only [Act.put]); (try simp only [nrA]); (try simp only [nrB]); (try simp only [nrC]))
        have hS : (fun W => Below wy.heap.size wy W) y6 := hb6
        clear hb6
        (refine wpAnyS_take0 (i := 25) (v := ?_) rfl (by kernel_rfl) (by kernel_rfl) (fun _ _ _ h => h) (Or.inl ⟨by kernel_rfl, ?_⟩) (Or.inr hS) ?_; rotate_left; (intro w hSw; clear hSw; go_simp; (try with_reducible rfl)); ((try simp only [Act.put]); (try simp only [nrA]); (try simp only [nrB]); (try simp only [nrC])))
        (refine wpAnyS_take0 (i := 26) (v := ?_) rfl (by kernel_rfl) (by kernel_rfl) (fun _ _ _ h => h) (Or.inl ⟨by kernel_rfl, ?_⟩) (Or.inr hS) ?_; rotate_left; (intro w hSw; clear hSw; go_simp; (try with_reducible rfl)); ((try simp only [Act.put]); (try simp only [nrA]); (try simp only [nrB]); (try simp only [nrC])))
        (refine wpAnyS_take0 (i := 27) (v := ?_) rfl (by kernel_rfl) (by kernel_rfl) (fun _ _ _ h => h) (Or.inl ⟨by kernel_rfl, ?_⟩) (Or.inr hS) ?_; rotate_left; (intro w hSw; clear hSw; go_simp; (try with_reducible rfl)); ((try simp only [Act.put]); (try simp only [nrA]); (try simp only [nrB]); (try simp only [nrC])))
        (refine wpAnyS_take0 (i := 28) (v := ?_) rfl (by kernel_rfl) (by kernel_rfl) (fun _ _ _ h => h) (Or.inl ⟨by kernel_rfl, ?_⟩) (Or.inr hS) ?_; rotate_left; (intro w hSw; clear hSw; go_simp; (try with_reducible rfl)); ((try simp only [Act.put]); (try simp only [nrA]); (try simp only [nrB]); (try simp only [nrC])))
        (refine wpAnyS_take0 (i := 29) (v := ?_) rfl (by kernel_rfl) (by kernel_rfl) (fun _ _ _ h => h) (Or.inl ⟨by kernel_rfl, ?_⟩) (Or.inr hS) ?_; rotate_left; (intro w hSw; clear hSw; go_simp; (try with_reducible rfl)); ((try simp only [Act.put]); (try simp only [nrA]); (try simp only [nrB]); (try simp only [nrC])))
        refine wpAnyS_one (i := 30) (by kernel_rfl) rfl rfl (fun K hK => ?_)
        go_wp2_with fail
        refine hK _ _ (Or.inl rfl) ?_
        clear hK K
        ((try simp only [Act.put]); (try simp only [nrA]); (try simp only [nrB]); (try simp only [nrC]))
        refine wpAnyS_done (by kernel_rfl) ?_ _
        replace HL := hid (HL.out.on hS)
        clear hS
        go_wp2_with fail
        exact bodyPost_ret (v := .bool true) (by simp [results, Tryz.results8, go_sem]) rfl ⟨rfl, HL.out.below⟩
       ·refine wp_region_S 30 (fun W => Below wy.heap.size wy W) (by kernel_rfl) ?_
        have hS : (fun W => Below wy.heap.size wy W) wy.drew := (Below.refl _ _).drew
        (refine wpAnyS_take0 (i := 0) (v := ?_) rfl (by kernel_rfl) (by kernel_rfl) (fun _ _ _ h => h) (Or.inl ⟨by kernel_rfl, ?_⟩) (Or.inr hS) ?_; rotate_left; (intro w hSw; clear hSw; go_simp; (try with_reducible rfl)); ((try simp only [Act.put]); (try simp only [nrA]); (try simp only [nrB]); (try simp only [nrC])))
        (refine wpAnyS_take0 (i := 1) (v := ?_) rfl (by kernel_rfl) (by kernel_rfl) (fun _ _ _ h => h) (Or.inl ⟨by kernel_rfl, ?_⟩) (Or.inr hS) ?_; rotate_left; (intro w hSw; clear hSw; go_simp; (try with_reducible rfl)); ((try simp only [Act.put]); (try simp only [nrA]); (try simp only [nrB]); (try simp only [nrC])))
        (refine wpAnyS_take (i := 2) (v := ?_) rfl (by kernel_rfl) (by kernel_rfl) (fun _ _ _ h => h) (Or.inl ⟨by kernel_rfl, ?_⟩) hS ?_; rotate_left; (intro w hSw; have hkw := hSw; obtain ⟨d0, cN, cA, cX, cB⟩ := HC.out _ hkw; clear hkw; go_simp; (try with_reducible rfl)); ((try simp only [Act.put]); (try simp only [nrA]); (try simp only [nrB]); (try simp only [nrC])))
        (refine wpAnyS_take0 (i := 3) (v := ?_) rfl (by kernel_rfl) (by kernel_rfl) (fun _ _ _ h => h) (Or.inl ⟨by kernel_rfl, ?_⟩) (Or.inr hS) ?_; rotate_left; (intro w hSw; clear hSw; go_simp; (try with_reducible rfl)); ((try simp only [Act.put]); (try simp only [nrA]); (try simp only [nrB]); (try simp only [nrC])))
        refine wpAnyS_oneG (i := 4) (by kernel_rfl) rfl (by kernel_rfl) (fun K hK => ?_)
        go_wp2_with fail
        refine (HFT.out _ hS).mono ?_
        rintro e y1 ⟨rfl, hb⟩
        have hb6 : Below wy.heap.size wy y1 := hS.trans (hb.mono hS.size)
        refine hK _ _ (Or.inr hb6) ?_
        clear hK K hb hS
        ((try simp only [Act.put]); (try simp only [nrA]); (try simp only [nrB]); (try simp only [nrC]))
        have hS : (fun W => Below wy.heap.size wy W) y1 := hb6
        clear hb6
        (refine wpAnyS_take0 (i := 5) (v := ?_) rfl (by kernel_rfl) (by kernel_rfl) (fun _ _ _ h => h) (Or.inl ⟨by kernel_rfl, ?_⟩) (Or.inr hS) ?_; rotate_left; (intro w hSw; clear hSw; go_simp; (try with_reducible rfl)); ((try simp only [Act.put]); (try simp only [nrA]); (try simp only [nrB]); (try simp only [nrC])))
        (refine wpAnyS_take0 (i := 6) (v := ?_) rfl (by kernel_rfl) (by kernel_rfl) (fun _ _ _ h => h) (Or.inl ⟨by kernel_rfl, ?_⟩) (Or.inr hS) ?_; rotate_left; (intro w hSw; clear hSw; go_simp; (try with_reducible rfl)); ((try simp only [Act.put]); (try simp only [nrA]); (try simp only [nrB]); (try simp only [nrC])))
        change wpAnyS _ _ _ _ _ _ _ _ (Act.mk _ _) _
        ((try simp only [Act.put]); (try simp only [nrA]); (try simp only [nrB]); (try simp only [nrC]))
        (refine wpAnyS_take (i := 7) (v := ?_) rfl (by kernel_rfl) (by kernel_rfl) (fun _ _ _ h => h) (Or.inl ⟨by kernel_rfl, ?_⟩) hS ?_; rotate_left; (intro w hSw; have hkw := hSw; obtain ⟨d0, cN, cA, cX, cB⟩ := HC.out _ hkw; clear hkw; go_simp; (try with_reducible rfl)); ((try simp only [Act.put]); (try simp only [nrA]); (try simp only [nrB]); (try simp only [nrC])))
        (refine wpAnyS_take0 (i := 8) (v := ?_) rfl (by kernel_rfl) (by kernel_rfl) (fun _ _ _ h => h) (Or.inl ⟨by kernel_rfl, ?_⟩) (Or.inr hS) ?_; rotate_left; (intro w hSw; clear hSw; go_simp; (try with_reducible rfl)); ((try simp only [Act.put]); (try simp only [nrA]); (try simp only [nrB]); (try simp only [nrC])))
        (refine wpAnyS_take (i := 10) (v := ?_) rfl (by kernel_rfl) (by kernel_rfl) (fun _ _ _ h => h) (Or.inl ⟨by kernel_rfl, ?_⟩) hS ?_; rotate_left; (intro w hSw; have hkw := hSw; obtain ⟨d0, cN, cA, cX, cB⟩ := HC.out _ hkw; clear hkw; go_simp; (try with_reducible rfl)); ((try simp only [Act.put]); (try simp only [nrA]); (try simp only [nrB]); (try simp only [nrC])))
        (refine wpAnyS_take0 (i := 11) (v := ?_) rfl (by kernel_rfl) (by kernel_rfl) (fun _ _ _ h => h) (Or.inl ⟨by kernel_rfl, ?_⟩) (Or.inr hS) ?_; rotate_left; (intro w hSw; clear hSw; go_simp; (try with_reducible rfl)); ((try simp only [Act.put]); (try simp only [nrA]); (try simp only [nrB]); (try simp only [nrC])))
        refine wpAnyS_oneG (i := 9) (by kernel_rfl) rfl (by kernel_rfl) (fun K hK => ?_)
        go_wp2_with fail
        refine (HHN.out _ hS).mono ?_
        rintro e y2 ⟨rfl, hb⟩
        have hb6 : Below wy.heap.size wy y2 := hS.trans (hb.mono hS.size)
        refine hK _ _ (Or.inr hb6) ?_
        clear hK K hb hS
        ((try simp only [Act.put]); (try simp only [nrA]); (try simp only [nrB]); (try simp only [nrC]))
        have hS : (fun W => Below wy.heap.size wy W) y2 := hb6
        clear hb6
        refine wpAnyS_oneG (i := 12) (by kernel_rfl) rfl (by kernel_rfl) (fun K hK => ?_)
        go_wp2_with fail
        refine (HHA.out _ hS).mono ?_
        rintro e y3 ⟨rfl, hb⟩
        have hb6 : Below wy.heap.size wy y3 := hS.trans (hb.mono hS.size)
        refine hK _ _ (Or.inr hb6) ?_
        clear hK K hb hS
        ((try simp only [Act.put]); (try simp only [nrA]); (try simp only [nrB]); (try simp only [nrC]))
        have hS : (fun W => Below wy.heap.size wy W) y3 := hb6
        clear hb6
        (refine wpAnyS_take0 (i := 13) (v := ?_) rfl (by kernel_rfl) (by kernel_rfl) (fun _ _ _ h => h) (Or.inl ⟨by kernel_rfl, ?_⟩) (Or.inr hS) ?_; rotate_left; (intro w hSw; clear hSw; go_simp; (try with_reducible rfl)); ((try simp only [Act.put]); (try simp only [nrA]); (try simp only [nrB]); (try simp only [nrC])))
        (refine wpAnyS_take0 (i := 14) (v := ?_) rfl (by kernel_rfl) (by kernel_rfl) (fun _ _ _ h => h) (Or.inl ⟨by kernel_rfl, ?_⟩) (Or.inr hS) ?_; rotate_left; (intro w hSw; clear hSw; go_simp; (try with_reducible rfl)); ((try simp only [Act.put]); (try simp only [nrA]); (try simp only [nrB]); (try simp only [nrC])))
        (refine wpAnyS_take (i := 15) (v := ?_) rfl (by kernel_rfl) (by kernel_rfl) (fun _ _ _ h => h) (Or.inl ⟨by kernel_rfl, ?_⟩) hS ?_; rotate_left; (intro w hSw; have hkw := hSw; obtain ⟨d0, cN, cA, cX, cB⟩ := HC.out _ hkw; clear hkw; go_simp; (try with_reducible rfl)); ((try simp only [Act.put]); (try simp only [nrA]); (try simp only [nrB]); (try simp only [nrC])))
        (refine wpAnyS_take0 (i := 16) (v := ?_) rfl (by kernel_rfl) (by kernel_rfl) (fun _ _ _ h => h) (Or.inl ⟨by kernel_rfl, ?_⟩) (Or.inr hS) ?_; rotate_left; (intro w hSw; clear hSw; go_simp; (try with_reducible rfl)); ((try simp only [Act.put]); (try simp only [nrA]); (try simp only [nrB]); (try simp only [nrC])))
        (refine wpAnyS_take (i := 18) (v := ?_) rfl (by kernel_rfl) (by kernel_rfl) (fun _ _ _ h => h) (Or.inl ⟨by kernel_rfl, ?_⟩) hS ?_; rotate_left; (intro w hSw; have hkw := hSw; obtain ⟨d0, cN, cA, cX, cB⟩ := HC.out _ hkw; clear hkw; go_simp; (try with_reducible rfl)); ((try simp only [Act.put]); (try simp only [nrA]); (try simp only [nrB]); (try simp only [nrC])))
        (refine wpAnyS_take0 (i := 19) (v := ?_) rfl (by kernel_rfl) (by kernel_rfl) (fun _ _ _ h => h) (Or.inl ⟨by kernel_rfl, ?_⟩) (Or.inr hS) ?_; rotate_left; (intro w hSw; clear hSw; go_simp; (try with_reducible rfl)); ((try simp only [Act.put]); (try simp only [nrA]); (try simp only [nrB]); (try simp only [nrC])))
        refine wpAnyS_oneG (i := 17) (by kernel_rfl) rfl (by kernel_rfl) (fun K hK => ?_)
        go_wp2_with fail
        refine (HHX.out _ hS).mono ?_
        rintro e y4 ⟨rfl, hb⟩
        have hb6 : Below wy.heap.size wy y4 := hS.trans (hb.mono hS.size)
        refine hK _ _ (Or.inr hb6) ?_
        clear hK K hb hS
        ((try simp only [Act.put]); (try simp only [nrA]); (try simp only [nrB]); (try simp only [nrC]))
        have hS : (fun W => Below wy.heap.size wy W) y4 := hb6
        clear hb6
        refine wpAnyS_oneG (i := 20) (by kernel_rfl) rfl (by kernel_rfl) (fun K hK => ?_)
        go_wp2_with fail
        refine (HHA.out _ hS).mono ?_
        rintro e y5 ⟨rfl, hb⟩
        have hb6 : Below wy.heap.size wy y5 := hS.trans (hb.mono hS.size)
        refine hK _ _ (Or.inr hb6) ?_
        clear hK K hb hS
        ((try simp only [Act.put]); (try simp only [nrA]); (try simp only [nrB]); (try simp only [nrC]))
        have hS : (fun W => Below wy.heap.size wy W) y5 := hb6
        clear hb6
        (refine wpAnyS_take0 (i := 21) (v := ?_) rfl (by kernel_rfl) (by kernel_rfl) (fun _ _ _ h => h) (Or.inl ⟨by kernel_rfl, ?_⟩) (Or.inr hS) ?_; rotate_left; (intro w hSw; clear hSw; go_simp; (try with_reducible rfl)); ((try simp only [Act.put]); (try simp only [nrA]); (try simp only [nrB]); (try simp only [nrC])))
        change wpAnyS _ _ _ _ _ _ _ _ (Act.mk _ _) _
        ((try simp only [Act.put]); (try simp only [nrA]); (try simp only [nrB]); (try simp only [nrC]))
        (refine wpAnyS_take (i := 22) (v := ?_) rfl (by kernel_rfl) (by kernel_rfl) (fun _ _ _ h => h) (Or.inl ⟨by kernel_rfl, ?_⟩) hS ?_; rotate_left; (intro w hSw; have hkw := hSw; obtain ⟨d0, cN, cA, cX, cB⟩ := HC.out _ hkw; clear hkw; go_simp; (try with_reducible rfl)); ((try simp only [Act.put]); (try simp only [nrA]); (try simp only [nrB]); (try simp only [nrC])))
        (refine wpAnyS_take0 (i := 23) (v := ?_) rfl (by kernel_rfl) (by kernel_rfl) (fun _ _ _ h => h) (Or.inl ⟨by kernel_rfl, ?_⟩) (Or.inr hS) ?_; rotate_left; (intro w hSw; clear hSw; go_simp; (try with_reducible rfl)); ((try simp only [Act.put]); (try simp only [nrA]); (try simp only [nrB]); (try simp only [nrC])))
        refine wpAnyS_oneG (i := 24) (by kernel_rfl) rfl (by kernel_rfl) (fun K hK => ?_)
        go_wp2_with fail
        refine (HHB.out _ hS).mono ?_
        rintro e y6 ⟨rfl, hb⟩
        have hb6 : Below wy.heap.size wy y6 := hS.trans (hb.mono hS.size)
        refine hK _ _ (Or.inr hb6) ?_
        clear hK K hb hS
        ((try simp only [Act.put]); (try simp only [nrA]); (try simp only [nrB]); (try simp only [nrC]))
        have hS : (fun W => Below wy.heap.size wy W) y6 := hb6
        clear hb6
        (refine wpAnyS_take0 (i := 25) (v := ?_) rfl (by kernel_rfl) (by kernel_rfl) (fun _ _ _ h => h) (Or.inl ⟨by kernel_rfl, ?_⟩) (Or.inr hS) ?_; rotate_left; (intro w hSw; clear hSw; go_simp; (try with_reducible rfl)); ((try simp only [Act.put]); (try simp only [nrA]); (try simp only [nrB]); (try simp only [nrC])))
        (refine wpAnyS_take0 (i := 26) (v := ?_) rfl (by kernel_rfl) (by kernel_rfl) (fun _ _ _ h => h) (Or.inl ⟨by kernel_rfl, ?_⟩) (Or.inr hS) ?_; rotate_left; (intro w hSw; clear hSw; go_simp; (try with_reducible rfl)); ((try simp only [Act.put]); (try simp only [nrA]); (try simp only [nrB]); (try simp only [nrC])))
        (refine wpAnyS_take0 (i := 27) (v := ?_) rfl (by kernel_rfl) (by kernel_rfl) (fun _ _ _ h => h) (Or.inl ⟨by kernel_rfl, ?_⟩) (Or.inr hS) ?_; rotate_left; (intro w hSw; clear hSw; go_simp; (try with_reducible rfl)); ((try simp only [Act.put]); (try simp only [nrA]); (try simp only [nrB]); (try simp only [nrC])))
        (refine wpAnyS_take0 (i := 28) (v := ?_) rfl (by kernel_rfl) (by kernel_rfl) (fun _ _ _ h => h) (Or.inl ⟨by kernel_rfl, ?_⟩) (Or.inr hS) ?_; rotate_left; (intro w hSw; clear hSw; go_simp; (try with_reducible rfl)); ((try simp only [Act.put]); (try simp only [nrA]); (try simp only [nrB]); (try simp only [nrC])))
        (refine wpAnyS_take0 (i := 29) (v := ?_) rfl (by kernel_rfl) (by kernel_rfl) (fun _ _ _ h => h) (Or.inl ⟨by kernel_rfl, ?_⟩) (Or.inr hS) ?_; rotate_left; (intro w hSw; clear hSw; go_simp; (try with_reducible rfl)); ((try simp only [Act.put]); (try simp only [nrA]); (try simp only [nrB]); (try simp only [nrC])))
        refine wpAnyS_one (i := 30) (by kernel_rfl) rfl rfl (fun K hK => ?_)
        go_wp2_with fail
        refine hK _ _ (Or.inl rfl) ?_
        clear hK K
        ((try simp only [Act.put]); (try simp only [nrA]); (try simp only [nrB]); (try simp only [nrC]))
        refine wpAnyS_done (by kernel_rfl) ?_ _
        replace HL := hid (HL.out.on hS)
        clear hS
        go_wp2_with fail
        exact bodyPost_ret (v := .bool true) (by simp [results, Tryz.results8, go_sem]) rfl ⟨rfl, HL.out.below⟩
     ·have hft : fits ds c = false := by simpa using hft
      rw [hft] at HFT
      clear hft
      refine wp_region_S 30 (fun W => Below wy.heap.size wy W) (by kernel_rfl) ?_
      have hS : (fun W => Below wy.heap.size wy W) wy.drew := (Below.refl _ _).drew
      (refine wpAnyS_take0 (i := 0) (v := ?_) rfl (by kernel_rfl) (by kernel_rfl) (fun _ _ _ h => h) (Or.inl ⟨by kernel_rfl, ?_⟩) (Or.inr hS) ?_; rotate_left; (intro w hSw; clear hSw; go_simp; (try with_reducible rfl)); ((try simp only [Act.put]); (try simp only [nrA]); (try simp only [nrB]); (try simp only [nrC])))
      (refine wpAnyS_take0 (i := 1) (v := ?_) rfl (by kernel_rfl) (by kernel_rfl) (fun _ _ _ h => h) (Or.inl ⟨by kernel_rfl, ?_⟩) (Or.inr hS) ?_; rotate_left; (intro w hSw; clear hSw; go_simp; (try with_reducible rfl)); ((try simp only [Act.put]); (try simp only [nrA]); (try simp only [nrB]); (try simp only [nrC])))
      (refine wpAnyS_take (i := 2) (v := ?_) rfl (by kernel_rfl) (by kernel_rfl) (fun _ _ _ h => h) (Or.inl ⟨by kernel_rfl, ?_⟩) hS ?_; rotate_left; (intro w hSw; have hkw := hSw; obtain ⟨d0, cN, cA, cX, cB⟩ := HC.out _ hkw; clear hkw; go_simp; (try with_reducible rfl)); ((try simp only [Act.put]); (try simp only [nrA]); (try simp only [nrB]); (try simp only [nrC])))
      (refine wpAnyS_take0 (i := 3) (v := ?_) rfl (by kernel_rfl) (by kernel_rfl) (fun _ _ _ h => h) (Or.inl ⟨by kernel_rfl, ?_⟩) (Or.inr hS) ?_; rotate_left; (intro w hSw; clear hSw; go_simp; (try with_reducible rfl)); ((try simp only [Act.put]); (try simp only [nrA]); (try simp only [nrB]); (try simp only [nrC])))
      refine wpAnyS_oneG (i := 4) (by kernel_rfl) rfl (by kernel_rfl) (fun K hK => ?_)
      go_wp2_with fail
      refine (HFT.out _ hS).mono ?_
      rintro e y1 ⟨rfl, hb⟩
      have hb6 : Below wy.heap.size wy y1 := hS.trans (hb.mono hS.size)
      refine hK _ _ (Or.inr hb6) ?_
      clear hK K hb hS
      ((try simp only [Act.put]); (try simp only [nrA]); (try simp only [nrB]); (try simp only [nrC]))
      have hS : (fun W => Below wy.heap.size wy W) y1 := hb6
      clear hb6
      (refine wpAnyS_take0 (i := 5) (v := ?_) rfl (by kernel_rfl) (by kernel_rfl) (fun _ _ _ h => h) (Or.inl ⟨by kernel_rfl, ?_⟩) (Or.inr hS) ?_; rotate_left; (intro w hSw; clear hSw; go_simp; (try with_reducible rfl)); ((try simp only [Act.put]); (try simp only [nrA]); (try simp only [nrB]); (try simp only [nrC])))
      (refine wpAnyS_take0 (i := 6) (v := ?_) rfl (by kernel_rfl) (by kernel_rfl) (fun _ _ _ h => h) (Or.inl ⟨by kernel_rfl, ?_⟩) (Or.inr hS) ?_; rotate_left; (intro w hSw; clear hSw; go_simp; (try with_reducible rfl)); ((try simp only [Act.put]); (try simp only [nrA]); (try simp only [nrB]); (try simp only [nrC])))
      change wpAnyS _ _ _ _ _ _ _ _ (Act.mk _ _) _
      ((try simp only [Act.put]); (try simp only [nrA]); (try simp only [nrB]); (try simp only [nrC]))
      refine wpAnyS_skip (i := 7) rfl (by kernel_rfl) (by kernel_rfl) (fun _ _ _ h => h) (by kernel_rfl) (by kernel_rfl) (Or.inr hS) ?_
      refine wpAnyS_skip (i := 8) rfl (by kernel_rfl) (by kernel_rfl) (fun _ _ _ h => h) (by kernel_rfl) (by kernel_rfl) (Or.inr hS) ?_
      refine wpAnyS_skip (i := 10) rfl (by kernel_rfl) (by kernel_rfl) (fun _ _ _ h => h) (by kernel_rfl) (by kernel_rfl) (Or.inr hS) ?_
      refine wpAnyS_skip (i := 11) rfl (by kernel_rfl) (by kernel_rfl) (fun _ _ _ h => h) (by kernel_rfl) (by kernel_rfl) (Or.inr hS) ?_
      refine wpAnyS_skip (i := 9) rfl (by kernel_rfl) (by kernel_rfl) (fun _ _ _ h => h) (by kernel_rfl) (by kernel_rfl) (Or.inr hS) ?_
      refine wpAnyS_skip (i := 12) rfl (by kernel_rfl) (by kernel_rfl) (fun _ _ _ h => h) (by kernel_rfl) (by kernel_rfl) (Or.inr hS) ?_
      refine wpAnyS_skip (i := 13) rfl (by kernel_rfl) (by kernel_rfl) (fun _ _ _ h => h) (by kernel_rfl) (by kernel_rfl) (Or.inr hS) ?_
      refine wpAnyS_skip (i := 14) rfl (by kernel_rfl) (by kernel_rfl) (fun _ _ _ h => h) (by kernel_rfl) (by kernel_rfl) (Or.inr hS) ?_
      refine wpAnyS_skip (i := 15) rfl (by kernel_rfl) (by kernel_rfl) (fun _ _ _ h => h) (by kernel_rfl) (by kernel_rfl) (Or.inr hS) ?_
      refine wpAnyS_skip (i := 16) rfl (by kernel_rfl) (by kernel_rfl) (fun _ _ _ h => h) (by kernel_rfl) (by kernel_rfl) (Or.inr hS) ?_
      refine wpAnyS_skip (i := 18) rfl (by kernel_rfl) (by kernel_rfl) (fun _ _ _ h => h) (by kernel_rfl) (by kernel_rfl) (Or.inr hS) ?_
      refine wpAnyS_skip (i := 19) rfl (by kernel_rfl) (by kernel_rfl) (fun _ _ _ h => h) (by kernel_rfl) (by kernel_rfl) (Or.inr hS) ?_
      refine wpAnyS_skip (i := 17) rfl (by kernel_rfl) (by kernel_rfl) (fun _ _ _ h => h) (by kernel_rfl) (by kernel_rfl) (Or.inr hS) ?_
      refine wpAnyS_skip (i := 20) rfl (by kernel_rfl) (by kernel_rfl) (fun _ _ _ h => h) (by kernel_rfl) (by kernel_rfl) (Or.inr hS) ?_
      refine wpAnyS_skip (i := 21) rfl (by kernel_rfl) (by kernel_rfl) (fun _ _ _ h => h) (by kernel_rfl) (by kernel_rfl) (Or.inr hS) ?_
      refine wpAnyS_skip (i := 22) rfl (by kernel_rfl) (by kernel_rfl) (fun _ _ _ h => h) (by kernel_rfl) (by kernel_rfl) (Or.inr hS) ?_
      refine wpAnyS_skip (i := 23) rfl (by kernel_rfl) (by kernel_rfl) (fun _ _ _ h => h) (by kernel_rfl) (by kernel_rfl) (Or.inr hS) ?_
      refine wpAnyS_skip (i := 24) rfl (by kernel_rfl) (by kernel_rfl) (fun _ _ _ h => h) (by kernel_rfl) (by kernel_rfl) (Or.inr hS) ?_
      refine wpAnyS_skip (i := 25) rfl (by kernel_rfl) (by kernel_rfl) (fun _ _ _ h => h) (by kernel_rfl) (by kernel_rfl) (Or.inr hS) ?_
      refine wpAnyS_skip (i := 26) rfl (by kernel_rfl) (by kernel_rfl) (fun _ _ _ h => h) (by kernel_rfl) (by kernel_rfl) (Or.inr hS) ?_
      refine wpAnyS_skip (i := 27) rfl (by kernel_rfl) (by kernel_rfl) (fun _ _ _ h => h) (by kernel_rfl) (by kernel_rfl) (Or.inr hS) ?_
      (refine wpAnyS_take0 (i := 28) (v := ?_) rfl (by kernel_rfl) (by kernel_rfl) (fun _ _ _ h => h) (Or.inl ⟨by kernel_rfl, ?_⟩) (Or.inr hS) ?_; rotate_left; (intro w hSw; clear hSw; go_simp; (try with_reducible rfl)); ((try simp only [Act.put]); (try simp only [nrA]); (try simp only [nrB]); (try simp only [nrC])))
      (refine wpAnyS_take0 (i := 29) (v := ?_) rfl (by kernel_rfl) (by kernel_rfl) (fun _ _ _ h => h) (Or.inl ⟨by kernel_rfl, ?_⟩) (Or.inr hS) ?_; rotate_left; (intro w hSw; clear hSw; go_simp; (try with_reducible rfl)); ((try simp only [Act.put]); (try simp only [nrA]); (try simp only [nrB]); (try simp only [nrC])))
      refine wpAnyS_one (i := 30) (by kernel_rfl) rfl rfl (fun K hK => ?_)
      go_wp2_with fail
      refine hK _ _ (Or.inl rfl) ?_
      clear hK K
      ((try simp only [Act.put]); (try simp only [nrA]); (try simp only [nrB]); (try simp only [nrC]))
      refine wpAnyS_done (by kernel_rfl) ?_ _
      replace HL := hid (HL.out.on hS)
      clear hS
      go_wp2_with fail
      exact bodyPost_ret (v := .bool true) (by simp [results, Tryz.results8, go_sem]) rfl ⟨rfl, HL.out.below⟩
  ·subst hn2
   have la := (build_ok HBF.out).1.len
   have lb := (build_ok HBH.out).1.len
   have hle : a.length * b.length ≤ 4000 * 4000 := Nat.mul_le_mul la lb
   have hmul : ((a.length * b.length : Nat) : Int) = (a.length : Int) * (b.length : Int) := Int.natCast_mul _ _
   have hwr : IntKind.i64.wrap ((a.length : Int) * (b.length : Int)) = (a.length : Int) * (b.length : Int) := wrapI_id (by rw [← hmul]; omega) (by rw [← hmul]; omega)
   have hgt : decide ((4000 : Int) < (a.length : Int) * (b.length : Int)) = true := by rw [← hmul]; exact decide_eq_true (by omega)
   clear hle hmul la lb hlen HE
   go_wp2_with fail
   exact bodyPost_ret (v := .bool true) (by simp [results, Tryz.results8, go_sem]) rfl ⟨rfl, HL.out.below⟩
 ·replace HL := hid (HL.out.on hb)
  clear hb f0 f1 f2 f3 f4 fl g0 g1 g2 g3 g4 gl d0 dl
  go_wp2_with fail
  have hbb : Below w.heap.size w ((w2.alloc (.cells #[.slice GA gl1 gcap] 34)).alloc (.cells #[.slice GA' gl2 gcap'] 34)) := (HL.out.below.alloc HL.out.below.size _).alloc (by have := HL.out.below.size; simp; omega) _
  exact bodyPost_ret (v := .bool true) (by simp [results, Tryz.results8, go_sem]) rfl ⟨rfl, hbb⟩
end Go.Proofs.YtcigjmlileckhaaGreatDoor
/- DiagramJoins: for every two formulas, domain and case, whatever they are: the law returns true, and the arguments read behind the call as before it. Conditions: the row's own (the listed variables of Go's library read as its text lays them: the card ties them). -/
namespace Go.Proofs.YtcigjmlileckhaaGreatDoor
open Go.ChangeShapes Go.WideShapes Go.ChangeAt Go.RowKit
set_option maxRecDepth 100000 in
theorem joined_lifted (os : Os) (started : os.Started) (H : Type) (enc : TypeId × Value → H) :
  ReturnsInHanded {} Tryz.checked os 8 .any (fun w args => (Rows.diagramJoinsSpec.pre enc Tryz.prog Tryz.f8 [] false w args ∧ laidMetH Tryz.prog laid5 w) ∧ sizedMet enc Tryz.prog Tryz.f8 (OpenSpec.ofChange Rows.diagramJoinsSpec) false w args)
   (Rows.diagramJoinsSpec.post enc Tryz.prog Tryz.f8 false true false false) := by
 refine returnsInHanded_of_change_and (C := Tryz.checked) (X := fun w _ => laidMetH Tryz.prog laid5 w) (fun _ _ _ hh h => h.of_heap hh) own started (by kernel_rfl) Tryz.func8
  (ChangeSpec.witness_shaped (enc := enc) (C := Tryz.checked) (os := os) (X := fun w _ => laidMetH Tryz.prog laid5 w) false (World.doorLaid Tryz.prog 62 os) #[.agg #[.int .i64 0, .string ByteArray.empty, .int .i64 0, .int .i64 0, .slice none 0 0], .agg #[.int .i64 0, .string ByteArray.empty, .int .i64 0, .int .i64 0, .slice none 0 0], .agg #[.slice none 0 0], .slice none 0 0] 8 rfl (World.shaped_of_RefB (by kernel_rfl) (by kernel_rfl)) (by kernel_rfl) (by kernel_rfl) (by kernel_rfl) (door_met os _)) ?_
 intro W base args ds gs before hval0 hW _ hsz0 hL _
 have hval : ∀ (j : Nat) t v, Tryz.f8.params[j]? = some t → args[j]? = some v → Value.okWide Tryz.prog W .any base t v := hval0
 have hW' := hW
 obtain ⟨p, q, hA0, hV, rfl, -, -⟩ := hW
 have hA : DataW.TrodAll enc Tryz.prog W 0 (fun _ => true) true Tryz.f8.params.toList args.toList ds p := hA0
 have hsz : (DataW.weightsEach Tryz.prog (Tryz.f8.params.toList ++ Rows.diagramJoinsSpec.plain.varTypes Tryz.prog) (ds ++ gs)).all (· ≤ reachBytes) = true := hsz0
 clear hA0 hsz0 hval0
 obtain ⟨rfl, rfl⟩ := trodVars_none hV
 simp only [List.append_nil] at hW'
 have hAA := hA
 rw [Tryz.params8] at hA hval hsz
 obtain ⟨v0, vs0, d0, ds0, p0, q0, hargs, rfl, rfl, h0, r0⟩ := trodAll_cons hA
 obtain ⟨v1, vs1, d1, ds1, p1, q1, rfl, rfl, rfl, h1, r1⟩ := trodAll_cons r0
 obtain ⟨v2, vs2, d2, ds2, p2, q2, rfl, rfl, rfl, h2, r2⟩ := trodAll_cons r1
 obtain ⟨v3, vs3, d3, ds3, p3, q3, rfl, rfl, rfl, h3, r3⟩ := trodAll_cons r2
 obtain ⟨rfl, rfl, rfl⟩ := trodAll_nil r3
 obtain rfl : args = #[v0, v1, v2, v3] := by simpa using congrArg List.toArray hargs
 obtain ⟨f0, cs0, rfl, a0⟩ := arg_fm (hval 0 24 _ rfl rfl) h0 (rd_arg hsz (j := 0) rfl rfl)
 obtain ⟨f1, cs1, rfl, a1⟩ := arg_fm (hval 1 24 _ rfl rfl) h1 (rd_arg hsz (j := 1) rfl rfl)
 obtain ⟨x2, xs2, rfl, a2⟩ := arg_dom (hval 2 27 _ rfl rfl) h2 (rd_arg hsz (j := 2) rfl rfl)
 obtain ⟨xs3, a3⟩ := arg_case (hval 3 29 _ rfl rfl) h3 (rd_arg hsz (j := 3) rfl rfl)
 refine (joins_any (Here W) f0 f1 cs0 cs1 x2 v3 xs2 xs3 W a0 a1 a2 a3 (fun _ h => h) (tab_of_laid hL)).mono fun e W' ⟨he, hb⟩ => ?_
 subst he
 exact ⟨_, rfl, law_post hW' hAA rfl rfl (by kernel_rfl) (by kernel_rfl) hb⟩
theorem joined_holds : Rows.DiagramJoinsSaid :=
 OpenClaim.holds_of_wide 8 Tryz.f8 rfl rfl rfl rfl rfl rfl rfl ⟨rfl, rfl, rfl, rfl, rfl⟩ rfl rfl rfl rfl rfl (by kernel_rfl) Tryz.func8 (by kernel_rfl)
  (of_decide_eq_true (by kernel_rfl)) (by unfold Func.isWrapper; rw [if_neg (of_decide_eq_false (by kernel_rfl))]; exact ⟨rfl, rfl⟩)
  (fun os started H enc _ => joined_lifted os started H enc)
theorem joined_card : Rows.DiagramJoinsCardSaid :=
 Claim7.holds_tied_plain_at .later [] [.data, .data, .data, .sentinel, .sentinel] true (true, "78984594f771543e7c6a528bcce2919cfdb226748e413a563341709c1c1b94d1") true
  joined_holds (fun _ h => by cases h) (by kernel_rfl) (fun _ h => by cases h) diagramJoins_row_tie rfl ⟨rfl, rfl⟩ (by kernel_rfl) rfl
  (fun f fn hf hfn => by
   obtain rfl : f = 8 := Option.some.inj ((show Tryz.prog.funcNamed "customhouse/customhouselaw26.DiagramJoins" = some 8 by kernel_rfl).symm.trans hf) |>.symm
   obtain rfl : fn = Tryz.f8 := (Option.some.inj (Tryz.func8.symm.trans hfn)).symm
   exact ⟨by kernel_rfl, fun j t ht => by
    rw [Tryz.params8] at ht
    have hm : t ∈ [24, 24, 27, 29] := by simpa using Array.mem_of_getElem? ht
    have hall : ([24, 24, 27, 29].all fun u => !Tryz.prog.wantsStandIn u) = true := by kernel_rfl
    exact (show Tryz.prog.wantsStandIn t = false by simpa using List.all_eq_true.1 hall t hm)⟩)
  (by kernel_rfl)
end Go.Proofs.YtcigjmlileckhaaGreatDoor
