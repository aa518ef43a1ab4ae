/- Plain: what DiagramJoins and DiagramEquals say. No program in sight. What Least answers, open; numbers that are there. The formula that joins two formulas, in memory. The boxes of two formulas and a domain. -/
import Derived.Test.YtcigjmlileckhaaGreatDoorM46
import Derived.Test.YtcigjmlileckhaaGreatDoorM38
import Derived.Test.YtcigjmlileckhaaGreatDoorM15
import Derived.Test.YtcigjmlileckhaaGreatDoorM25
/- Plain: what DiagramJoins and DiagramEquals say. No program in sight. -/
namespace Go.Proofs.YtcigjmlileckhaaGreatDoor
section
variable {ds : List FactD} {f h : Fm} {a b x y z p : List NodeD}
theorem notD_len (g : List NodeD) : (notD g).length = g.length := List.length_map _
/-- Joins: an error, or none. -/
theorem joins_err (hf : buildS ds f = (a, 0)) (hh : buildS ds h = (b, 0)) (e : (andS ds a b).2 ≠ 0) : andS ds a b = ([], 2) ∧ andS ds b a = ([], 2) ∧ 4000 < a.length * b.length := by
 obtain ⟨h1, h2, h3⟩ := and_err (build_ok hf).1 (build_ok hh).1 e
 have h4 : andS ds a b = ([], 2) := Prod.ext h1 h2
 exact ⟨h4, by rw [and_sym, h4], h3⟩
theorem joins_build (hf : buildS ds f = (a, 0)) (hh : buildS ds h = (b, 0)) (hx : andS ds a b = (x, 0)) (nm : ByteArray) (cm nu : Int) (hz : buildS ds (.mk 5 nm cm nu [f, h]) = (z, 0)) : x = z := by
 obtain ⟨-, -, Vx, Sx⟩ := and_ok hx
 obtain ⟨Vz, Sz⟩ := build_ok hz
 refine Vx.eq Vz fun c hc => ?_
 rw [Sx c hc, Sz c hc, (build_ok hf).2 c hc, (build_ok hh).2 c hc]
 have e : evF ds c (.mk 5 nm cm nu [f, h]) = allF ds c [f, h] := by
  rw [evF, if_neg (by decide), if_neg (by decide), if_pos rfl]
 rw [e, allF, allF, allF, Bool.and_true]
theorem joins_lim (hd : validDom ds = true) (hc : checkS ds (.mk 5 ByteArray.empty 0 0 [f, h]) = 0) (hz : (buildS ds (.mk 5 ByteArray.empty 0 0 [f, h])).2 ≠ 0) : (buildS ds (.mk 5 ByteArray.empty 0 0 [f, h])).2 = 2 := by
 rcases (build_err hz).2 with e | ⟨-, e | e⟩
 ·exact e
 ·rw [hd] at e; cases e
 ·exact absurd hc e
theorem joins_holds (_hf : buildS ds f = (a, 0)) (_hh : buildS ds h = (b, 0)) (hx : andS ds a b = (x, 0)) {c : List Int} (hc : fits ds c = true) :
  holdsD (notD a) c (notD a).length 0 = !holdsD a c a.length 0 ∧ holdsD x c x.length 0 = (holdsD a c a.length 0 && holdsD b c b.length 0) := by
 obtain ⟨Va, Vb, Vx, Sx⟩ := and_ok hx
 have hl := fits_len hc
 have F := fit_of hc
 rw [holdsD_all (notD_valid Va).good hl (notD_valid Va).rng, holdsD_all Va.good hl Va.rng, holdsD_all Vb.good hl Vb.rng, holdsD_all Vx.good hl Vx.rng]
 exact ⟨not_S Va c, Sx c F⟩
/-- Equals: the diagrams are equal. -/
theorem eq_same (hf : buildS ds f = (a, 0)) (hh : buildS ds h = (a, 0)) {c : List Int} (hc : fits ds c = true) : holdsS ds c f = holdsS ds c h := by
 have h1 := (build_zero (ds := ds) (f := f) (by rw [hf])).2
 have h2 := (build_zero (ds := ds) (f := h) (by rw [hh])).2
 unfold holdsS
 rw [hc, h1, h2, ← (build_ok hf).2 c (fit_of hc), ← (build_ok hh).2 c (fit_of hc)]
theorem eq_err (hf : buildS ds f = (a, 0)) (hh : buildS ds h = (b, 0)) (e : (andS ds a (notD b)).2 ≠ 0) : andS ds a (notD b) = ([], 2) ∧ 4000 < a.length * b.length := by
 obtain ⟨h1, h2, h3⟩ := and_err (build_ok hf).1 (notD_valid (build_ok hh).1) e
 rw [notD_len] at h3
 exact ⟨Prod.ext h1 h2, h3⟩
theorem eq_some (hf : buildS ds f = (a, 0)) (hh : buildS ds h = (b, 0)) (hx : andS ds a (notD b) = (x, 0)) {p : List Int} (hp : leastS ds x = some p) : fits ds p = true ∧ holdsS ds p f = true ∧ holdsS ds p h = false := by
 obtain ⟨Va, -, -, Sx⟩ := and_ok hx
 obtain ⟨Vx, F, T, -⟩ := leastS_some hp
 have h1 := (build_zero (ds := ds) (f := f) (by rw [hf])).2
 have hfit := fits_of Va.dom F
 rw [Sx p F, not_S (build_ok hh).1, Bool.and_eq_true] at T
 refine ⟨hfit, ?_, ?_⟩
 ·unfold holdsS
  rw [hfit, h1, ← (build_ok hf).2 p F, T.1]; rfl
 ·unfold holdsS
  rw [← (build_ok hh).2 p F, show S ds b 0 p = false by simpa using T.2, Bool.and_false]
theorem eq_none (_hf : buildS ds f = (a, 0)) (_hh : buildS ds h = (b, 0)) (hne : a ≠ b) (hx : andS ds a (notD b) = (x, 0)) (hy : andS ds b (notD a) = (y, 0)) (h1 : leastS ds x = none) (h2 : leastS ds y = none) : False := by
 obtain ⟨Va, -, Vx, Sx⟩ := and_ok hx
 obtain ⟨Vb, -, Vy, Sy⟩ := and_ok hy
 refine hne (Va.eq Vb fun c hc => ?_)
 have e1 := Sx c hc
 have e2 := Sy c hc
 rw [(leastS_none Vx h1).1 c, not_S Vb] at e1
 rw [(leastS_none Vy h2).1 c, not_S Va] at e2
 cases hA : S ds a 0 c <;> cases hB : S ds b 0 c <;> rw [hA, hB] at e1 e2 <;> first | rfl | exact absurd e1 (by decide) | exact absurd e2 (by decide)
end
end Go.Proofs.YtcigjmlileckhaaGreatDoor
/- What Least answers, open; numbers that are there. -/
namespace Go.Proofs.YtcigjmlileckhaaGreatDoor
open Go.RowKit
theorem least_no {w w' : World} {e : Ending} (h : LeastPost w none e w') : ∃ A cap, e = .returned (.tuple #[.slice A 0 cap, .bool false]) ∧ Below w.heap.size w w' := by
 obtain ⟨v, rfl, hp, hb⟩ := h
 obtain ⟨A, cap, rfl, -⟩ := hp.form
 exact ⟨A, cap, rfl, hb⟩
theorem least_yes {w w' : World} {e : Ending} {p : List Int} (h : LeastPost w (some p) e w') : ∃ A cap, e = .returned (.tuple #[.slice A p.length cap, .bool true]) ∧ Ints (fun _ => True) w' (.slice A p.length cap) p ∧ Below w.heap.size w w' := by
 obtain ⟨v, rfl, hp, hb⟩ := h
 simp only [Option.getD_some] at hp
 obtain ⟨A, cap, rfl, -⟩ := hp.form
 exact ⟨A, cap, rfl, hp.mono fun _ _ => trivial, hb⟩
theorem ints_here {Z : Zone} {w : World} {v : Value} {xs : List Int} (h : Ints Z w v xs) : Ints (fun b => b < w.heap.size) w v xs := by
 obtain ⟨⟨A, cap, e, h1, h2, h3, hr⟩, hf⟩ := h
 refine ⟨⟨A, cap, e, h1, h2, h3, fun hne => ?_⟩, hf⟩
 obtain ⟨b, off, e, hz, hc⟩ := hr hne
 have hl : 0 < (xs.map (Value.int .i64)).length := List.length_pos_iff.2 hne
 exact ⟨b, off, e, lt_of_cell (hc 0 _ (List.getElem?_eq_getElem hl)), hc⟩
end Go.Proofs.YtcigjmlileckhaaGreatDoor
/- The formula that joins two formulas, in memory. -/
namespace Go.Proofs.YtcigjmlileckhaaGreatDoor
open Go.RowKit
theorem fm_two {Z : Zone} {W : World} {row : Nat} {f h : Fm} {A B : Option Addr} {cap bcap : Nat} (hb : Blk W row 24 #[.int .i64 f.op, .string f.name, .int .i64 f.cmp, .int .i64 f.num, .slice A f.kids.length cap, .int .i64 h.op, .string h.name, .int .i64 h.cmp, .int .i64 h.num, .slice B h.kids.length bcap])
  (hf : FmR Z W f [.int .i64 f.op, .string f.name, .int .i64 f.cmp, .int .i64 f.num, .slice A f.kids.length cap]) (hh : FmR Z W h [.int .i64 h.op, .string h.name, .int .i64 h.cmp, .int .i64 h.num, .slice B h.kids.length bcap]) :
  FmR (fun b => Z b ∨ b = row) W (.mk 5 ⟨#[]⟩ 0 0 [f, h]) [.int .i64 5, .string ⟨#[]⟩, .int .i64 0, .int .i64 0, .slice (some ⟨row, 0, none⟩) 2 2] := by
 have hf' := FmR.mono (Z' := fun b => Z b ∨ b = row) (fun _ h => Or.inl h) _ _ hf
 have hh' := FmR.mono (Z' := fun b => Z b ∨ b = row) (fun _ h => Or.inl h) _ _ hh
 refine ⟨I64.of (by decide) (by decide), by show (0 : Nat) ≤ _; omega, I64.of (by decide) (by decide), I64.of (by decide) (by decide), some ⟨row, 0, none⟩, 2, rfl, Nat.le_refl _, by omega, by simp, ?_⟩
 refine ⟨row, 0, _, rfl, Or.inr rfl, fun j u hu => ?_, hf', row, 0 + 5, _, rfl, Or.inr rfl, fun j u hu => ?_, hh', trivial⟩
 ·have hj : j < 5 := by have := (List.getElem?_eq_some_iff.1 hu).1; simpa using this
  rw [Nat.zero_add, hb.cell, ← hu]
  have : j = 0 ∨ j = 1 ∨ j = 2 ∨ j = 3 ∨ j = 4 := by omega
  rcases this with rfl | rfl | rfl | rfl | rfl <;> rfl
 ·have hj : j < 5 := by have := (List.getElem?_eq_some_iff.1 hu).1; simpa using this
  rw [Nat.zero_add, hb.cell, ← hu]
  have : j = 0 ∨ j = 1 ∨ j = 2 ∨ j = 3 ∨ j = 4 := by omega
  rcases this with rfl | rfl | rfl | rfl | rfl <;> rfl
end Go.Proofs.YtcigjmlileckhaaGreatDoor
/- The boxes of two formulas and a domain. -/
namespace Go.Proofs.YtcigjmlileckhaaGreatDoor
open Go.RowKit
theorem and_gen {va vb vd : Value} {a b g : List NodeD} {n : Int} {ds : List FactD} {w : World} (ha : Nodes (fun _ => True) w va a) (hb : Nodes (fun _ => True) w vb b) (hd : Facts (fun b => b < w.heap.size) w vd ds) (htab : TabB w.heap.size w) (h : andS ds a b = (g, n)) :
  Calls Tryz.prog 24 #[.agg #[va], .agg #[vb], .agg #[vd]] w fun e w' => ∃ A cap, e = .returned (.tuple #[.agg #[.slice A g.length cap], .int .i64 n]) ∧ Nodes (fun _ => True) w' (.slice A g.length cap) g ∧ Below w.heap.size w w' :=
 (and_any (fun b => b < w.heap.size) va vb vd a b ds w ha.here hb.here hd (fun _ h => h) htab).mono fun e w' hp => by
  rw [h] at hp
  obtain ⟨v, rfl, hn, hb⟩ := hp
  obtain ⟨A, cap, e, -, -, -⟩ := hn.open_
  simp only at e
  subst e
  exact ⟨A, cap, rfl, hn.mono fun _ _ => trivial, hb⟩
structure Jw (w0 w : World) (A : Option Addr) (cap : Nat) (B : Option Addr) (bcap : Nat) (D : Option Addr) (dcap : Nat) (f h : Fm) (ds : List FactD) (c : List Int) (vc : Value) (Z : Zone) : Prop where
 fb : Blk w w0.heap.size 24 #[.int .i64 f.op, .string f.name, .int .i64 f.cmp, .int .i64 f.num, .slice A f.kids.length cap]
 gb : Blk w (w0.heap.size + 1) 24 #[.int .i64 h.op, .string h.name, .int .i64 h.cmp, .int .i64 h.num, .slice B h.kids.length bcap]
 db : Blk w (w0.heap.size + 1 + 1) 27 #[.slice D ds.length dcap]
 fm : FmR Z w f [.int .i64 f.op, .string f.name, .int .i64 f.cmp, .int .i64 f.num, .slice A f.kids.length cap]
 gm : FmR Z w h [.int .i64 h.op, .string h.name, .int .i64 h.cmp, .int .i64 h.num, .slice B h.kids.length bcap]
 fs : Facts Z w (.slice D ds.length dcap) ds
 ci : Ints Z w vc c
 below : Below w0.heap.size w0 w
 tab : TabB w.heap.size w
 zone : ∀ b, Z b → b < w.heap.size
theorem Jw.on {w0 w w' : World} {A : Option Addr} {cap : Nat} {B : Option Addr} {bcap : Nat} {D : Option Addr} {dcap : Nat} {f h : Fm} {ds : List FactD} {c : List Int} {vc : Value} {Z : Zone} (k : Jw w0 w A cap B bcap D dcap f h ds c vc Z) (hb : Below w.heap.size w w') : Jw w0 w' A cap B bcap D dcap f h ds c vc Z :=
 ⟨k.fb.below hb k.fb.lt, k.gb.below hb k.gb.lt, k.db.below hb k.db.lt, FmR.keep (.of_below hb) _ _ k.fm, FmR.keep (.of_below hb) _ _ k.gm, k.fs.keep (.of_below hb), k.ci.keep (.of_below hb), k.below.trans (hb.mono k.below.size), (k.tab.on hb).mono hb.size, fun b hz => Nat.lt_of_lt_of_le (k.zone b hz) hb.size⟩
theorem Jw.cells {w w' : World} {A : Option Addr} {cap : Nat} {B : Option Addr} {bcap : Nat} {D : Option Addr} {dcap : Nat} {f h : Fm} {ds : List FactD} {c : List Int} {vc : Value} {Z : Zone} (hw : Jw w w' A cap B bcap D dcap f h ds c vc Z) : w'.cell? ⟨w.heap.size, 0, none⟩ = some (.int .i64 f.op) ∧ w'.cell? ⟨w.heap.size, 1, none⟩ = some (.string f.name) ∧ w'.cell? ⟨w.heap.size, 2, none⟩ = some (.int .i64 f.cmp) ∧ w'.cell? ⟨w.heap.size, 3, none⟩ = some (.int .i64 f.num) ∧ w'.cell? ⟨w.heap.size, 4, none⟩ = some (.slice A f.kids.length cap) ∧ w.heap.size < w'.heap.size ∧ w'.cell? ⟨w.heap.size + 1, 0, none⟩ = some (.int .i64 h.op) ∧ w'.cell? ⟨w.heap.size + 1, 1, none⟩ = some (.string h.name) ∧ w'.cell? ⟨w.heap.size + 1, 2, none⟩ = some (.int .i64 h.cmp) ∧ w'.cell? ⟨w.heap.size + 1, 3, none⟩ = some (.int .i64 h.num) ∧ w'.cell? ⟨w.heap.size + 1, 4, none⟩ = some (.slice B h.kids.length bcap) ∧ w.heap.size + 1 < w'.heap.size ∧ w'.cell? ⟨w.heap.size + 1 + 1, 0, none⟩ = some (.slice D ds.length dcap) ∧ w.heap.size + 1 + 1 < w'.heap.size :=
 ⟨hw.fb.cell 0, hw.fb.cell 1, hw.fb.cell 2, hw.fb.cell 3, hw.fb.cell 4, hw.fb.lt, hw.gb.cell 0, hw.gb.cell 1, hw.gb.cell 2, hw.gb.cell 3, hw.gb.cell 4, hw.gb.lt, hw.db.cell 0, hw.db.lt⟩
theorem Jw.start {w : World} {A : Option Addr} {cap : Nat} {B : Option Addr} {bcap : Nat} {D : Option Addr} {dcap : Nat} {f h : Fm} {ds : List FactD} {c : List Int} {vc : Value} {Z : Zone} (hf : FmR Z w f [.int .i64 f.op, .string f.name, .int .i64 f.cmp, .int .i64 f.num, .slice A f.kids.length cap]) (hg : FmR Z w h [.int .i64 h.op, .string h.name, .int .i64 h.cmp, .int .i64 h.num, .slice B h.kids.length bcap]) (hd : Facts Z w (.slice D ds.length dcap) ds) (hc : Ints Z w vc c) (hz : ∀ b, Z b → b < w.heap.size) (htab : TabB w.heap.size w) :
  Jw w (((w.alloc (.cells #[.int .i64 f.op, .string f.name, .int .i64 f.cmp, .int .i64 f.num, .slice A f.kids.length cap] 24)).alloc (.cells #[.int .i64 h.op, .string h.name, .int .i64 h.cmp, .int .i64 h.num, .slice B h.kids.length bcap] 24)).alloc (.cells #[.slice D ds.length dcap] 27)) A cap B bcap D dcap f h ds c vc Z := by
 have hb2 := ((below1 w (.cells #[.int .i64 f.op, .string f.name, .int .i64 f.cmp, .int .i64 f.num, .slice A f.kids.length cap] 24)).alloc (by simp) (.cells #[.int .i64 h.op, .string h.name, .int .i64 h.cmp, .int .i64 h.num, .slice B h.kids.length bcap] 24)).alloc (by simp; omega) (.cells #[.slice D ds.length dcap] 27)
 exact ⟨((Blk.new w _ _).alloc _).alloc _, (Blk.new' (w.alloc (.cells #[.int .i64 f.op, .string f.name, .int .i64 f.cmp, .int .i64 f.num, .slice A f.kids.length cap] 24)) _ _ (by simp)).alloc _, Blk.new' ((w.alloc (.cells #[.int .i64 f.op, .string f.name, .int .i64 f.cmp, .int .i64 f.num, .slice A f.kids.length cap] 24)).alloc (.cells #[.int .i64 h.op, .string h.name, .int .i64 h.cmp, .int .i64 h.num, .slice B h.kids.length bcap] 24)) _ _ (by simp), FmR.keep (.of_below hb2) _ _ hf, FmR.keep (.of_below hb2) _ _ hg, hd.keep (.of_below hb2), hc.keep (.of_below hb2), hb2, (htab.on hb2).mono hb2.size, fun b h => Nat.lt_of_lt_of_le (hz b h) hb2.size⟩
end Go.Proofs.YtcigjmlileckhaaGreatDoor
