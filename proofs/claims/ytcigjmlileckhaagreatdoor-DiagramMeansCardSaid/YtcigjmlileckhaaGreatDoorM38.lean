/- The walk of DiagramMeans. -/
import Derived.Test.YtcigjmlileckhaaGreatDoorM35
import Derived.Test.YtcigjmlileckhaaGreatDoorM37
import Derived.Test.YtcigjmlileckhaaGreatDoorM33
import Derived.Test.YtcigjmlileckhaaGreatDoorM24
import Derived.Test.YtcigjmlileckhaaGreatDoorM14
import Derived.Test.YtcigjmlileckhaaGreatDoorM7
import Derived.Test.YtcigjmlileckhaaGreatDoorM10

/- The walk of DiagramMeans. -/
namespace Go.Proofs.YtcigjmlileckhaaGreatDoor
open Go.RowKit

/-- As wpAnyS_one, for an operation that its guard wants. -/
theorem wpAnyS_oneG {P : Program} {ops : Array Oper} {Q : Exit → Act → World → Prop} {md : Region.Mode} {S : World → Prop} {s i : Nat} {o : Oper} {fuel : Nat} {listed : Array Bool} {a : Act} {w : World} (hr : Region.ready md ops listed = [i]) (ho : ops[i]? = some o) (hg : Region.wanted o (yielded ops a.tmps) = true)
    (h : ∀ K : Act → World → Prop, (∀ a' w', ((listed.setIfInBounds i true).getD s true = true ∨ S w') → wpAnyS P md ops Q S s fuel (listed.setIfInBounds i true) a' w' → K a' w') → Oper.wp P o a w K Q) : wpAnyS P md ops Q S s (fuel + 1) listed a w := by
  refine ⟨fun h0 => (by rw [hr] at h0; cases h0), fun j hj => ?_⟩
  rw [hr] at hj
  simp at hj
  subst hj
  unfold wpOp
  rw [ho]
  simp only
  rw [if_pos hg]
  exact Or.inl (h _ fun a' w' h1 h2 => ⟨h1, h2⟩)
/-- A guarded operation that is not wanted, its slot still unwritten. -/
theorem wpAnyS_skip {P : Program} {ops : Array Oper} {Q : Exit → Act → World → Prop} {md : Region.Mode} {S : World → Prop} {s i : Nat} {oi : Oper} {fuel : Nat} {listed : Array Bool} {a : Act} {w : World} (hi : ops[i]? = some oi)
    (hs : Region.noSelect ops = true) (hf : (Region.free md ops listed i && (Region.ready md ops listed).contains i && (i != s)) = true)
    (hQ : ∀ c a w, Q (.panic c) (a.put oi.dst undef) w → Q (.panic c) a w) (hw : Region.wanted oi (yielded ops a.tmps) = false) (hp : a.put oi.dst undef = a) (hS : listed.getD s true = true ∨ S w)
    (h : wpAnyS P md ops Q S s fuel (listed.setIfInBounds i true) a w) : wpAnyS P md ops Q S s (fuel + 1) listed a w :=
  wpAnyS_take0 hi hs hf hQ (Or.inr ⟨hw, rfl⟩) hS (by rw [hp]; exact h)
theorem build_zero {ds : List FactD} {f : Fm} (h : (buildS ds f).2 = 0) : validDom ds = true ∧ checkS ds f = 0 := by
  unfold buildS at h
  split at h
  · exact absurd h (by decide)
  · rename_i hv
    simp only [not_or, Bool.not_eq_false, ne_eq, Decidable.not_not] at hv
    exact hv

theorem small_size {f : Fm} {ds : List FactD} (h : smallS f ds = true) : fsize f ≤ 250 := by
  unfold smallS at h
  simp only [Bool.and_eq_true, decide_eq_true_eq] at h
  exact h.1

/-- The boxes of a law's formula and domain. -/
structure Lw (w0 w : World) (A : Option Addr) (cap : Nat) (D : Option Addr) (dcap : Nat) (f : Fm) (ds : List FactD) (c : List Int) (vc : Value) (Z : Zone) : Prop where
  fb : Blk w w0.heap.size 24 #[.int .i64 f.op, .string f.name, .int .i64 f.cmp, .int .i64 f.num, .slice A f.kids.length cap]
  db : Blk w (w0.heap.size + 1) 27 #[.slice D ds.length dcap]
  fm : FmR Z w f [.int .i64 f.op, .string f.name, .int .i64 f.cmp, .int .i64 f.num, .slice A f.kids.length cap]
  fs : Facts Z w (.slice D ds.length dcap) ds
  ci : Ints Z w vc c
  below : Below w0.heap.size w0 w
  tab : TabB w.heap.size w
  zone : ∀ b, Z b → b < w.heap.size
theorem Lw.on {w0 w w' : World} {A : Option Addr} {cap : Nat} {D : Option Addr} {dcap : Nat} {f : Fm} {ds : List FactD} {c : List Int} {vc : Value} {Z : Zone} (h : Lw w0 w A cap D dcap f ds c vc Z) (hb : Below w.heap.size w w') : Lw w0 w' A cap D dcap f ds c vc Z :=
  ⟨h.fb.below hb h.fb.lt, h.db.below hb h.db.lt, FmR.keep (.of_below hb) _ _ h.fm, h.fs.keep (.of_below hb), h.ci.keep (.of_below hb), h.below.trans (hb.mono h.below.size), (h.tab.on hb).mono hb.size, fun b hz => Nat.lt_of_lt_of_le (h.zone b hz) hb.size⟩
theorem Lw.start {Z : Zone} {f : Fm} {ds : List FactD} {c : List Int} {w : World} {A : Option Addr} {cap : Nat} {D : Option Addr} {dcap : Nat} {vc : Value} (hf : FmR Z w f [.int .i64 f.op, .string f.name, .int .i64 f.cmp, .int .i64 f.num, .slice A f.kids.length cap]) (hd : Facts Z w (.slice D ds.length dcap) ds) (hc : Ints Z w vc c) (hz : ∀ b, Z b → b < w.heap.size) (htab : TabB w.heap.size w) :
    Lw w ((w.alloc (.cells #[.int .i64 f.op, .string f.name, .int .i64 f.cmp, .int .i64 f.num, .slice A f.kids.length cap] 24)).alloc (.cells #[.slice D ds.length dcap] 27)) A cap D dcap f ds c vc Z := by
  have hb2 := (below1 w (.cells #[.int .i64 f.op, .string f.name, .int .i64 f.cmp, .int .i64 f.num, .slice A f.kids.length cap] 24)).alloc (by simp) (.cells #[.slice D ds.length dcap] 27)
  exact ⟨(Blk.new w _ _).alloc _, Blk.new' _ _ _ (by simp), FmR.keep (.of_below hb2) _ _ hf, hd.keep (.of_below hb2), hc.keep (.of_below hb2), hb2, (htab.on hb2).mono hb2.size, fun b h => Nat.lt_of_lt_of_le (hz b h) hb2.size⟩

set_option maxRecDepth 100000 in
set_option maxHeartbeats 16000000 in
theorem means_any (Z : Zone) (f : Fm) (cs : List Value) (vd vc : Value) (ds : List FactD) (c : List Int) (w : World) (hf : FmR Z w f cs) (hd : Facts Z w vd ds) (hc : Ints Z w vc c) (hz : ∀ b, Z b → b < w.heap.size) (htab : TabB w.heap.size w) :
    Calls Tryz.prog 3 #[.agg cs.toArray, .agg #[vd], vc] w fun e w' => e = .returned (.bool true) ∧ Below w.heap.size w w' := by
  obtain ⟨A, cap, rfl⟩ := FmR.form hf
  obtain ⟨D, dcap, hvd, -, -, -⟩ := hd.open_
  subst hvd
  obtain ⟨C, ccap, hvc, -⟩ := hc.form
  subst hvc
  have HL := hid (Lw.start hf hd hc hz htab)
  clear hf hd hc hz htab
  go_enter Tryz.func3, Tryz.ntmps3
  go_wp2_with fail
  refine (head_any _ HL.out.tab).mono ?_
  rintro e w1 ⟨rfl, hb⟩
  replace HL := hid (HL.out.on hb)
  clear hb
  have f0 : w1.cell? ⟨w.heap.size, 0, none⟩ = some (.int .i64 f.op) := HL.out.fb.cell 0
  have f1 : w1.cell? ⟨w.heap.size, 1, none⟩ = some (.string f.name) := HL.out.fb.cell 1
  have f2 : w1.cell? ⟨w.heap.size, 2, none⟩ = some (.int .i64 f.cmp) := HL.out.fb.cell 2
  have f3 : w1.cell? ⟨w.heap.size, 3, none⟩ = some (.int .i64 f.num) := HL.out.fb.cell 3
  have f4 : w1.cell? ⟨w.heap.size, 4, none⟩ = some (.slice A f.kids.length cap) := HL.out.fb.cell 4
  have fl : w.heap.size < w1.heap.size := HL.out.fb.lt
  have d0 : w1.cell? ⟨w.heap.size + 1, 0, none⟩ = some (.slice D ds.length dcap) := HL.out.db.cell 0
  have dl : w.heap.size + 1 < w1.heap.size := HL.out.db.lt
  by_cases hs : smallS f ds = true
  · have HS := hid (small_any Z Z f _ _ ds w1 HL.out.fm HL.out.fs)
    rw [hs] at HS
    have H1 := hid hs
    clear hs
    go_wp2_with fail
    refine (HS.out).mono ?_
    rintro e w2 ⟨rfl, hb⟩
    replace HL := hid (HL.out.on hb)
    clear hb f0 f1 f2 f3 f4 fl d0 dl HS
    have f0 : w2.cell? ⟨w.heap.size, 0, none⟩ = some (.int .i64 f.op) := HL.out.fb.cell 0
    have f1 : w2.cell? ⟨w.heap.size, 1, none⟩ = some (.string f.name) := HL.out.fb.cell 1
    have f2 : w2.cell? ⟨w.heap.size, 2, none⟩ = some (.int .i64 f.cmp) := HL.out.fb.cell 2
    have f3 : w2.cell? ⟨w.heap.size, 3, none⟩ = some (.int .i64 f.num) := HL.out.fb.cell 3
    have f4 : w2.cell? ⟨w.heap.size, 4, none⟩ = some (.slice A f.kids.length cap) := HL.out.fb.cell 4
    have fl : w.heap.size < w2.heap.size := HL.out.fb.lt
    have d0 : w2.cell? ⟨w.heap.size + 1, 0, none⟩ = some (.slice D ds.length dcap) := HL.out.db.cell 0
    have dl : w.heap.size + 1 < w2.heap.size := HL.out.db.lt
    have HB := hid (build_any Z Z (.slice D ds.length dcap) f _ ds w2 HL.out.fm HL.out.zone HL.out.fs HL.out.zone (by have := small_size H1.out; omega) HL.out.tab)
    have HP := hid (show (buildS ds f).2 = 0 ∨ (buildS ds f).2 ≠ 0 from by omega)
    have HO := hid (fun (g : List NodeD) (h : buildS ds f = (g, 0)) => And.intro (build_ok h) (build_zero (ds := ds) (f := f) (by rw [h])))
    have HE := hid (build_err (ds := ds) (f := f))
    generalize hgn : buildS ds f = gn at *
    obtain ⟨g, n⟩ := gn
    have HG := hid hgn
    clear hgn
    go_wp2_with fail
    refine HB.out.mono ?_
    rintro e w3 ⟨v3, rfl, hn, hb⟩
    obtain ⟨GA, gcap, hv3, -, -, -⟩ := hn.open_
    subst hv3
    have hb' := hb.alloc hb.size (.cells #[.slice GA g.length gcap] 34)
    replace HL := hid (HL.out.on hb')
    have HN := hid ((hn.keep ((Keeps.refl _ _).alloc (.cells #[.slice GA g.length gcap] 34))).mono (Z' := fun _ => True) fun _ _ => trivial)
    have HX := hid (Blk.new w3 34 #[.slice GA g.length gcap])
    clear hb hb' hn f0 f1 f2 f3 f4 fl d0 dl HB
    go_upto_region 5 with fail
    generalize w3.alloc (.cells #[.slice GA g.length gcap] 34) = w4 at *
    generalize w3.heap.size = gb at *
    rcases HP.out with hp | hp
    · have hn0 : n = 0 := hp
      subst hn0
      have HOK := hid (HO.out g rfl)
      clear hp HP HO HE
      have x0 : w4.cell? ⟨gb, 0, none⟩ = some (.slice GA g.length gcap) := HX.out.cell 0
      have xl : gb < w4.heap.size := HX.out.lt
      have d0 : w4.cell? ⟨w.heap.size + 1, 0, none⟩ = some (.slice D ds.length dcap) := HL.out.db.cell 0
      have dl : w.heap.size + 1 < w4.heap.size := HL.out.db.lt
      have HV := hid (dvalid_any (fun _ => True) (.slice GA g.length gcap) (.slice D ds.length dcap) g ds w4 HN.out (HL.out.fs.mono fun _ _ => trivial) HL.out.tab)
      rw [validS_iff.2 HOK.out.1.1] at HV
      go_wp2_with fail
      refine (HV.out).mono ?_
      rintro e w5 ⟨rfl, hb⟩
      replace HN := hid (HN.out.keep (Keeps.of_below hb))
      replace HX := hid (HX.out.below hb HX.out.lt)
      replace HL := hid (HL.out.on hb)
      clear hb HV x0 xl d0 dl
      have x0 : w5.cell? ⟨gb, 0, none⟩ = some (.slice GA g.length gcap) := HX.out.cell 0
      have xl : gb < w5.heap.size := HX.out.lt
      go_upto_region 9 with fail
      have HFT := hid (fun W (hd : Facts Z W (.slice D ds.length dcap) ds) (hc : Ints Z W (.slice C c.length ccap) c) => factFits_any Z (.slice D ds.length dcap) (.slice C c.length ccap) ds c W hd hc)
      have d0 : w5.cell? ⟨w.heap.size + 1, 0, none⟩ = some (.slice D ds.length dcap) := HL.out.db.cell 0
      have dl : w.heap.size + 1 < w5.heap.size := HL.out.db.lt
      by_cases hft : fits ds c = true
      · rw [hft] at HFT
        have HEQ := hid (show holdsD g c g.length 0 = holdsS ds c f from by
          rw [holdsD_all HOK.out.1.1.good (fits_len hft) HOK.out.1.1.rng, HOK.out.1.2 c (fit_of hft)]
          unfold holdsS
          simp [hft, HOK.out.2.2])
        clear hft
        have HH := hid (fun W (hg : Nodes (fun _ => True) W (.slice GA g.length gcap) g) (hc : Ints (fun _ => True) W (.slice C c.length ccap) c) => dholds_any (fun _ => True) (.slice GA g.length gcap) (.slice C c.length ccap) g c W hg hc)
        have HG2 := hid (fun W (h : Lw w W A cap D dcap f ds c (.slice C c.length ccap) Z) => holds_any Z (.slice D ds.length dcap) (.slice C c.length ccap) ds c f _ W h.fm h.fs h.ci (by have := small_size H1.out; omega) h.zone)
        rw [HEQ.out] at HH
        generalize holdsS ds c f = bb at *
        clear HEQ
        have f0 : w5.cell? ⟨w.heap.size, 0, none⟩ = some (.int .i64 f.op) := HL.out.fb.cell 0
        have f1 : w5.cell? ⟨w.heap.size, 1, none⟩ = some (.string f.name) := HL.out.fb.cell 1
        have f2 : w5.cell? ⟨w.heap.size, 2, none⟩ = some (.int .i64 f.cmp) := HL.out.fb.cell 2
        have f3 : w5.cell? ⟨w.heap.size, 3, none⟩ = some (.int .i64 f.num) := HL.out.fb.cell 3
        have f4 : w5.cell? ⟨w.heap.size, 4, none⟩ = some (.slice A f.kids.length cap) := HL.out.fb.cell 4
        have fl : w.heap.size < w5.heap.size := HL.out.fb.lt
        have hh : ∀ W, Below w5.heap.size w5 W → W.cell? ⟨gb, 0, none⟩ = some (.slice GA g.length gcap) ∧ W.cell? ⟨w.heap.size + 1, 0, none⟩ = some (.slice D ds.length dcap) ∧ W.cell? ⟨w.heap.size, 0, none⟩ = some (.int .i64 f.op) ∧ W.cell? ⟨w.heap.size, 1, none⟩ = some (.string f.name) ∧ W.cell? ⟨w.heap.size, 2, none⟩ = some (.int .i64 f.cmp) ∧ W.cell? ⟨w.heap.size, 3, none⟩ = some (.int .i64 f.num) ∧ W.cell? ⟨w.heap.size, 4, none⟩ = some (.slice A f.kids.length cap) := fun W hb =>
          ⟨(hb.cell (p := ⟨gb, 0, none⟩) xl).trans x0, (hb.cell (p := ⟨w.heap.size + 1, 0, none⟩) dl).trans d0, (hb.cell (p := ⟨w.heap.size, 0, none⟩) fl).trans f0, (hb.cell (p := ⟨w.heap.size, 1, none⟩) fl).trans f1, (hb.cell (p := ⟨w.heap.size, 2, none⟩) fl).trans f2, (hb.cell (p := ⟨w.heap.size, 3, none⟩) fl).trans f3, (hb.cell (p := ⟨w.heap.size, 4, none⟩) fl).trans f4⟩
        have HH7 := hid hh
        clear hh HOK H1
        go_region_held3 (fun w' => w'.cell? ⟨gb, 0, none⟩ = some (.slice GA g.length gcap) ∧ w'.cell? ⟨w.heap.size + 1, 0, none⟩ = some (.slice D ds.length dcap) ∧ w'.cell? ⟨w.heap.size, 0, none⟩ = some (.int .i64 f.op) ∧ w'.cell? ⟨w.heap.size, 1, none⟩ = some (.string f.name) ∧ w'.cell? ⟨w.heap.size, 2, none⟩ = some (.int .i64 f.cmp) ∧ w'.cell? ⟨w.heap.size, 3, none⟩ = some (.int .i64 f.num) ∧ w'.cell? ⟨w.heap.size, 4, none⟩ = some (.slice A f.kids.length cap)) (first | exact ⟨x0, d0, f0, f1, f2, f3, f4⟩ | exact ⟨q0, q1, q2, q3, q4, q5, q6⟩ | (refine ⟨?_, ?_, ?_, ?_, ?_, ?_, ?_⟩ <;> go_keep))
          (first
            | (go_at_call 16; refine (HFT.out _ (HL.out.fs.keep (Keeps.refl _ _).drew) (HL.out.ci.keep (Keeps.refl _ _).drew)).mono ?_; rintro e w6 ⟨rfl, hb6⟩; have hb6 : Below w5.heap.size w5 w6 := (Below.refl _ _).drew.trans hb6; obtain ⟨q0, q1, q2, q3, q4, q5, q6⟩ := HH7.out _ hb6)
            | (go_at_call 17; refine (HH.out _ (HN.out.keep (Keeps.of_below hb6)) ((HL.out.ci.keep (Keeps.of_below hb6)).mono fun _ _ => trivial)).mono ?_; rintro e w7 ⟨rfl, hb7⟩; have hb7 : Below w5.heap.size w5 w7 := hb6.trans (hb7.mono hb6.size); obtain ⟨q0, q1, q2, q3, q4, q5, q6⟩ := HH7.out _ hb7)
            | (go_at_call 18; refine (HG2.out _ (HL.out.on hb7)).mono ?_; rintro e w8 ⟨rfl, hb8⟩; have hb8 : Below w5.heap.size w5 w8 := hb7.trans (hb8.mono hb7.size); obtain ⟨q0, q1, q2, q3, q4, q5, q6⟩ := HH7.out _ hb8))
        replace HL := hid (HL.out.on hb8)
        go_wp2_with fail
        exact bodyPost_ret (v := .bool true) (by simp [results, Tryz.results3, go_sem]) rfl ⟨rfl, HL.out.below⟩
      · have hft : fits ds c = false := by simpa using hft
        rw [hft] at HFT
        clear hft
        have HC := hid (fun (W : World) (hW : Below w5.heap.size w5 W) => (hW.cell (p := ⟨w.heap.size + 1, 0, none⟩) dl).trans d0)
        refine wp_region_S 17 (fun W => Below w5.heap.size w5 W) (by kernel_rfl) ?_
        have hS : (fun W => Below w5.heap.size w5 W) w5.drew := (Below.refl _ _).drew
        (refine wpAnyS_take0 (i := 0) (v := ?_) rfl (by kernel_rfl) (by kernel_rfl) (fun _ _ _ h => h) (Or.inl ⟨by rfl, ?_⟩) (Or.inr hS) ?_; rotate_left; (intro w hSw; clear hSw; go_simp; (try with_reducible rfl)); ((try simp only [Act.put]); (try simp only [List.setIfInBounds_toArray]); (try simp only [List.set_cons_succ]); (try simp only [List.set_cons_zero])))
        (refine wpAnyS_take0 (i := 1) (v := ?_) rfl (by kernel_rfl) (by kernel_rfl) (fun _ _ _ h => h) (Or.inl ⟨by rfl, ?_⟩) (Or.inr hS) ?_; rotate_left; (intro w hSw; clear hSw; go_simp; (try with_reducible rfl)); ((try simp only [Act.put]); (try simp only [List.setIfInBounds_toArray]); (try simp only [List.set_cons_succ]); (try simp only [List.set_cons_zero])))
        (refine wpAnyS_take (i := 2) (v := ?_) rfl (by kernel_rfl) (by kernel_rfl) (fun _ _ _ h => h) (Or.inl ⟨by rfl, ?_⟩) hS ?_; rotate_left; (intro w hSw; have hkw := hSw; have h0 := HC.out _ hkw; clear hkw; go_simp; (try with_reducible rfl)); ((try simp only [Act.put]); (try simp only [List.setIfInBounds_toArray]); (try simp only [List.set_cons_succ]); (try simp only [List.set_cons_zero])))
        (refine wpAnyS_take0 (i := 3) (v := ?_) rfl (by kernel_rfl) (by kernel_rfl) (fun _ _ _ h => h) (Or.inl ⟨by rfl, ?_⟩) (Or.inr hS) ?_; rotate_left; (intro w hSw; clear hSw; go_simp; (try with_reducible rfl)); ((try simp only [Act.put]); (try simp only [List.setIfInBounds_toArray]); (try simp only [List.set_cons_succ]); (try simp only [List.set_cons_zero])))
        refine wpAnyS_oneG (i := 4) (by kernel_rfl) rfl (by rfl) (fun K hK => ?_)
        go_wp2_with fail
        refine (HFT.out _ (HL.out.fs.keep (Keeps.refl _ _).drew) (HL.out.ci.keep (Keeps.refl _ _).drew)).mono ?_
        rintro e w6 ⟨rfl, hb⟩
        have hb6 : Below w5.heap.size w5 w6 := hS.trans hb
        refine hK _ _ (Or.inr hb6) ?_
        clear hK K hb hS
        ((try simp only [Act.put]); (try simp only [List.setIfInBounds_toArray]); (try simp only [List.set_cons_succ]); (try simp only [List.set_cons_zero]))
        have hS : (fun W => Below w5.heap.size w5 W) w6 := hb6
        (refine wpAnyS_take0 (i := 5) (v := ?_) rfl (by kernel_rfl) (by kernel_rfl) (fun _ _ _ h => h) (Or.inl ⟨by rfl, ?_⟩) (Or.inr hS) ?_; rotate_left; (intro w hSw; clear hSw; go_simp; (try with_reducible rfl)); ((try simp only [Act.put]); (try simp only [List.setIfInBounds_toArray]); (try simp only [List.set_cons_succ]); (try simp only [List.set_cons_zero])))
        (refine wpAnyS_take0 (i := 6) (v := ?_) rfl (by kernel_rfl) (by kernel_rfl) (fun _ _ _ h => h) (Or.inl ⟨by rfl, ?_⟩) (Or.inr hS) ?_; rotate_left; (intro w hSw; clear hSw; go_simp; (try with_reducible rfl)); ((try simp only [Act.put]); (try simp only [List.setIfInBounds_toArray]); (try simp only [List.set_cons_succ]); (try simp only [List.set_cons_zero])))
        change wpAnyS _ _ _ _ _ _ _ _ (Act.mk _ _) _
        ((try simp only [Act.put]); (try simp only [List.setIfInBounds_toArray]); (try simp only [List.set_cons_succ]); (try simp only [List.set_cons_zero]))
        refine wpAnyS_skip (i := 7) rfl (by kernel_rfl) (by kernel_rfl) (fun _ _ _ h => h) (by rfl) (by rfl) (Or.inr hS) ?_
        refine wpAnyS_skip (i := 8) rfl (by kernel_rfl) (by kernel_rfl) (fun _ _ _ h => h) (by rfl) (by rfl) (Or.inr hS) ?_
        refine wpAnyS_skip (i := 10) rfl (by kernel_rfl) (by kernel_rfl) (fun _ _ _ h => h) (by rfl) (by rfl) (Or.inr hS) ?_
        refine wpAnyS_skip (i := 11) rfl (by kernel_rfl) (by kernel_rfl) (fun _ _ _ h => h) (by rfl) (by rfl) (Or.inr hS) ?_
        refine wpAnyS_skip (i := 12) rfl (by kernel_rfl) (by kernel_rfl) (fun _ _ _ h => h) (by rfl) (by rfl) (Or.inr hS) ?_
        refine wpAnyS_skip (i := 9) rfl (by kernel_rfl) (by kernel_rfl) (fun _ _ _ h => h) (by rfl) (by rfl) (Or.inr hS) ?_
        refine wpAnyS_skip (i := 13) rfl (by kernel_rfl) (by kernel_rfl) (fun _ _ _ h => h) (by rfl) (by rfl) (Or.inr hS) ?_
        refine wpAnyS_skip (i := 14) rfl (by kernel_rfl) (by kernel_rfl) (fun _ _ _ h => h) (by rfl) (by rfl) (Or.inr hS) ?_
        (refine wpAnyS_take0 (i := 15) (v := ?_) rfl (by kernel_rfl) (by kernel_rfl) (fun _ _ _ h => h) (Or.inl ⟨by rfl, ?_⟩) (Or.inr hS) ?_; rotate_left; (intro w hSw; clear hSw; go_simp; (try with_reducible rfl)); ((try simp only [Act.put]); (try simp only [List.setIfInBounds_toArray]); (try simp only [List.set_cons_succ]); (try simp only [List.set_cons_zero])))
        (refine wpAnyS_take0 (i := 16) (v := ?_) rfl (by kernel_rfl) (by kernel_rfl) (fun _ _ _ h => h) (Or.inl ⟨by rfl, ?_⟩) (Or.inr hS) ?_; rotate_left; (intro w hSw; clear hSw; go_simp; (try with_reducible rfl)); ((try simp only [Act.put]); (try simp only [List.setIfInBounds_toArray]); (try simp only [List.set_cons_succ]); (try simp only [List.set_cons_zero])))
        refine wpAnyS_one (i := 17) (by kernel_rfl) rfl rfl (fun K hK => ?_)
        go_wp2_with fail
        refine hK _ _ (Or.inl rfl) ?_
        clear hK K
        ((try simp only [Act.put]); (try simp only [List.setIfInBounds_toArray]); (try simp only [List.set_cons_succ]); (try simp only [List.set_cons_zero]))
        refine wpAnyS_done (by kernel_rfl) ?_ _
        replace HL := hid (HL.out.on hb6)
        clear hS hb6
        go_wp2_with fail
        exact bodyPost_ret (v := .bool true) (by simp [results, Tryz.results3, go_sem]) rfl ⟨rfl, HL.out.below⟩
    · have HP2 := hid (HE.out hp)
      have e1 : (n != (0 : Int)) = true := by simp only [bne_iff_ne, ne_eq]; exact hp
      clear hp HP HO HE
      have hg0 : g = [] := HP2.out.1
      subst hg0
      have x0 : w4.cell? ⟨gb, 0, none⟩ = some (.slice GA 0 gcap) := HX.out.cell 0
      have xl : gb < w4.heap.size := HX.out.lt
      rcases HP2.out.2 with h2 | ⟨h1, h2⟩
      · have h2 : n = 2 := h2
        subst h2
        clear HP2 e1
        go_wp2_with fail
        exact bodyPost_ret (v := .bool true) (by simp [results, Tryz.results3, go_sem]) rfl ⟨rfl, HL.out.below⟩
      · have h1 : n = 1 := h1
        subst h1
        clear HP2 e1
        have d0 : w4.cell? ⟨w.heap.size + 1, 0, none⟩ = some (.slice D ds.length dcap) := HL.out.db.cell 0
        have dl : w.heap.size + 1 < w4.heap.size := HL.out.db.lt
        have HV := hid (factValid_any Z (.slice D ds.length dcap) ds w4 HL.out.fs)
        have H2 := hid h2
        clear h2
        by_cases hv : validDom ds = true
        · rw [hv] at HV
          have hk : checkS ds f ≠ 0 := H2.out.resolve_left (by rw [hv]; decide)
          have e2 : (checkS ds f != (0 : Int)) = true := by simp only [bne_iff_ne, ne_eq]; exact hk
          clear hv hk H2
          have HKK := hid e2
          clear e2
          go_wp2_with fail
          refine (HV.out).mono ?_
          rintro e w5 ⟨rfl, hb⟩
          replace HL := hid (HL.out.on hb)
          clear hb HV x0 xl d0 dl
          have f0 : w5.cell? ⟨w.heap.size, 0, none⟩ = some (.int .i64 f.op) := HL.out.fb.cell 0
          have f1 : w5.cell? ⟨w.heap.size, 1, none⟩ = some (.string f.name) := HL.out.fb.cell 1
          have f2 : w5.cell? ⟨w.heap.size, 2, none⟩ = some (.int .i64 f.cmp) := HL.out.fb.cell 2
          have f3 : w5.cell? ⟨w.heap.size, 3, none⟩ = some (.int .i64 f.num) := HL.out.fb.cell 3
          have f4 : w5.cell? ⟨w.heap.size, 4, none⟩ = some (.slice A f.kids.length cap) := HL.out.fb.cell 4
          have fl : w.heap.size < w5.heap.size := HL.out.fb.lt
          have d0 : w5.cell? ⟨w.heap.size + 1, 0, none⟩ = some (.slice D ds.length dcap) := HL.out.db.cell 0
          have dl : w.heap.size + 1 < w5.heap.size := HL.out.db.lt
          have HC := hid (check_any Z (.slice D ds.length dcap) ds f _ w5 HL.out.fm HL.out.fs (by have := small_size H1.out; omega) HL.out.zone)
          have e2 := HKK.out
          go_wp2_with fail
          refine (HC.out).mono ?_
          rintro e w6 ⟨rfl, hb⟩
          replace HL := hid (HL.out.on hb)
          clear hb HC f0 f1 f2 f3 f4 fl d0 dl
          go_wp2_with fail
          exact bodyPost_ret (v := .bool true) (by simp [results, Tryz.results3, go_sem]) rfl ⟨rfl, HL.out.below⟩
        · have hv : validDom ds = false := by simpa using hv
          rw [hv] at HV
          clear hv H2
          go_wp2_with fail
          refine (HV.out).mono ?_
          rintro e w5 ⟨rfl, hb⟩
          replace HL := hid (HL.out.on hb)
          clear hb HV x0 xl d0 dl
          go_wp2_with fail
          exact bodyPost_ret (v := .bool true) (by simp [results, Tryz.results3, go_sem]) rfl ⟨rfl, HL.out.below⟩
  · have hs : smallS f ds = false := by simpa using hs
    have HS := hid (small_any Z Z f _ _ ds w1 HL.out.fm HL.out.fs)
    rw [hs] at HS
    clear hs
    go_wp2_with fail
    refine (HS.out).mono ?_
    rintro e w2 ⟨rfl, hb⟩
    replace HL := hid (HL.out.on hb)
    clear hb f0 f1 f2 f3 f4 fl d0 dl HS
    go_wp2_with fail
    exact bodyPost_ret (v := .bool true) (by simp [results, Tryz.results3, go_sem]) rfl ⟨rfl, HL.out.below⟩
end Go.Proofs.YtcigjmlileckhaaGreatDoor
