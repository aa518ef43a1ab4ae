/- Walk of diagram.maker.from. -/
import Derived.Test.YtcigjmlileckhaaGreatDoorM12
import Derived.StillTailTactics
/- Walk of diagram.maker.from. -/
namespace Go.Proofs.YtcigjmlileckhaaGreatDoor
open Go.RowKit
/-- slices.Clone of numbers. -/
theorem cloneI_any (Z : Zone) (v : Value) (xs : List Int) (w : World) (h : Ints Z w v xs) :
  Calls Tryz.prog 97 #[v] w fun e w' => ∃ v', e = .returned v' ∧ w'.ownsRow w.heap.size 3 1 v' xs.length (xs.map (.int .i64)) ∧ Below w.heap.size w w' := by
 by_cases hne : xs = []
 ·subst hne
  obtain ⟨⟨A, cap, rfl, h1, _, _, _⟩, _⟩ := h
  cases A with
  | none =>
   refine (Tryz.slices_Clone_int_nil _ cap w).mono ?_
   rintro e w' ⟨rfl, rfl⟩
   exact ⟨_, rfl, World.ownsRow_nil _ _ _ _, Below.refl _ _⟩
  | some a =>
   refine (Tryz.slices_Clone_int_zero a cap w).mono ?_
   rintro e w' ⟨v', rfl, h1, _, h3⟩
   exact ⟨v', rfl, h1, h3⟩
 ·obtain ⟨b, off, cap, rfl, _, _, hle, hc⟩ := h.open_ hne
  obtain ⟨⟨_, _, e, _, _, hb, _⟩, _⟩ := h
  refine (Tryz.slices_Clone_int b off xs.length cap xs w (Nat.le_refl _) hb hc).mono ?_
  rintro e w' ⟨v', rfl, h1, _, h3⟩
  rw [List.take_length] at h1
  exact ⟨v', rfl, h1, h3⟩
theorem own_set1 {w : World} {base : Nat} {e : TypeId} {g n cap : Nat} {xs : List Value} (h : w.ownsRow base e 1 (.slice (some ⟨g, 0, none⟩) n cap) n xs) (j : Nat) (u : Value) :
  (w.setCell ⟨g, j, none⟩ u).ownsRow base e 1 (.slice (some ⟨g, 0, none⟩) n cap) n (xs.set j u) := by
 refine ⟨by simpa using h.1, ?_⟩
 rcases h.2 with ⟨h, _⟩ | ⟨g', cap', cur, e', hb, hg, h1, h2, h3, h4⟩
 ·cases h
 ·injection e' with e1 e2 e3
  injection e1 with e1
  injection e1 with e1
  subst e1 e3
  refine Or.inr ⟨g, cap, cur.setIfInBounds j u, rfl, hb, ?_, h1, h2, by simpa using h3, ?_⟩
  ·have : Blk w g e cur := hg
   exact this.set_ j u
  ·rw [← h4]
   simp only [Nat.mul_one, Array.toList_setIfInBounds, List.take_set]
theorem own_cell1 {w : World} {base : Nat} {e : TypeId} {g n cap : Nat} {xs : List Value} (h : w.ownsRow base e 1 (.slice (some ⟨g, 0, none⟩) n cap) n xs) {j : Nat} {u : Value} (hu : xs[j]? = some u) : w.cell? ⟨g, j, none⟩ = some u ∧ w.frozen? ⟨g, j, none⟩ = false := by
 have := h.cells (g := g) rfl j u hu
 rw [show (⟨g, 0, none⟩ : Addr).add j = ⟨g, j, none⟩ from by unfold Addr.add; split <;> simp_all] at this
 refine ⟨this, ?_⟩
 rcases h.2 with ⟨h, _⟩ | ⟨g', cap', cur, e', hb, hg, _⟩
 ·cases h
 ·injection e' with e1 e2 e3
  injection e1 with e1
  injection e1 with e1
  subst e1
  exact (show Blk w g e cur from hg).frozen j
theorem place_look {od : List Int} {k : Int} : (if false = true then Value.tuple #[(kvGet (kvO od 0) k).getD (.int .i64 0), .bool (kvGet (kvO od 0) k).isSome] else (kvGet (kvO od 0) k).getD (.int .i64 0)) = .int .i64 (placeS od k) := by
 rw [if_neg (by simp), kvO_get]
 unfold placeS
 split <;> simp
theorem set_step (l : List Int) (f : Int → Int) {x : Nat} (hx : x < l.length) :
  ((l.take (x + 1)).map f ++ l.drop (x + 1)).map (Value.int .i64) = (((l.take x).map f ++ l.drop x).map (Value.int .i64)).set x (.int .i64 (f l[x])) := by
 rw [List.take_succ_eq_append_getElem hx, List.drop_eq_getElem_cons hx]
 simp only [List.map_append, List.map_cons, List.map_nil, List.append_assoc]
 rw [List.set_append_right _ _ (by simp; omega)]
 simp [Nat.min_eq_left (Nat.le_of_lt hx)]
/-- What from returns. -/
def fromS (ds : List FactD) (g : List NodeD) (i : Int) : List NodeD × Int := if 4000 < (orderS ds g i).length then ([], 2) else (canonS ds g i, 0)
def FromPost (Z : Zone) (r : List NodeD × Int) (w : World) (e : Ending) (w' : World) : Prop :=
 ∃ v, e = .returned (.tuple #[.agg #[v], .int .i64 r.2]) ∧ Nodes (fun b => Z b ∨ w.heap.size ≤ b) w' v r.1 ∧ Below w.heap.size w w'
def fromW (w : World) (M : Nat) : World :=
 ((((((w.alloc (.cells #[.pointer (some ⟨M, 0, none⟩)] 64)).alloc (.cells #[.slice none 0 0] 34)).alloc (.map #[] 0)).alloc (.cells #[.map (some (w.heap.size + 1 + 1))] 134)).alloc (.cells #[.slice none 0 0] 28)).alloc
  (.cells #[.func (.func 96) #[] #[.pointer (some ⟨w.heap.size + 1 + 1 + 1, 0, none⟩), .pointer (some ⟨w.heap.size + 1 + 1 + 1 + 1, 0, none⟩), .pointer (some ⟨w.heap.size, 0, none⟩), .pointer (some ⟨w.heap.size + 1 + 1 + 1 + 1 + 1, 0, none⟩)]] 135))
theorem one_new' (w : World) (v : Value) (t : TypeId) {n : Nat} (h : w.heap.size = n) : One (w.alloc (.cells #[v] t)) n v := h ▸ One.new w v t
theorem from_start {w : World} {M : Nat} {all : List NodeD} {F Z : Nat → Prop} (h : MkS w M all F Z) :
  VisC (fromW w M) (w.heap.size + 1 + 1 + 1) (w.heap.size + 1 + 1 + 1 + 1) w.heap.size (w.heap.size + 1 + 1 + 1 + 1 + 1) (w.heap.size + 1 + 1) M (w.heap.size + 1 + 1 + 1 + 1 + 1 + 1) all F Z ∧
  VisO (fromW w M) (w.heap.size + 1 + 1 + 1 + 1) (w.heap.size + 1 + 1) (w.heap.size + 1 + 1 + 1 + 1 + 1 + 1) [] ∧ Below w.heap.size w (fromW w M) ∧ Blk (fromW w M) (w.heap.size + 1) 34 #[.slice none 0 0] ∧ (fromW w M).heap.size = w.heap.size + 1 + 1 + 1 + 1 + 1 + 1 := by
 have hb : Below w.heap.size w (fromW w M) := ((((((Below.refl _ _).alloc (Nat.le_refl _) _).alloc (by simp) _).alloc (by simp; omega) _).alloc (by simp; omega) _).alloc (by simp; omega) _).alloc (by simp; omega) _
 have hs : (fromW w M).heap.size = w.heap.size + 1 + 1 + 1 + 1 + 1 + 1 := by simp [fromW]
 refine ⟨⟨?_, ?_, ?_, h.below hb, fun b hb => ?_, by omega, by omega⟩, ?_, hb, ?_, hs⟩
 ·exact ((one_new' _ _ _ (by simp)).alloc _).alloc _
 ·exact (((((One.new w _ _).alloc _).alloc _).alloc _).alloc _).alloc _
 ·exact one_new' _ _ _ (by simp)
 ·rcases hb with hb | hb | rfl | rfl | rfl
  ·have := h.liveF b hb; omega
  ·have := h.liveZ b hb; omega
  ·omega
  ·omega
  ·omega
 ·refine ⟨.slice none 0 0, (one_new' _ _ _ (by simp)).alloc _, World.ownsRow_nil _ _ _ _, ?_⟩
  have := MapIs.made ((w.alloc (.cells #[.pointer (some ⟨M, 0, none⟩)] 64)).alloc (.cells #[.slice none 0 0] 34)) encI
  simp only [World.size_alloc] at this
  have h2 : MapIs encI (fromW w M) (w.heap.size + 1 + 1) [] := this.of_block (((Below.heap_alloc _ _ _ (by simp; try omega)).trans (Below.heap_alloc _ _ _ (by simp; try omega))).trans (Below.heap_alloc _ _ _ (by simp; try omega)))
  exact h2
 ·have := ((((Blk.new (w.alloc (.cells #[.pointer (some ⟨M, 0, none⟩)] 64)) 34 #[.slice none 0 0]).alloc (.map #[] 0)).alloc (.cells #[.map (some (w.heap.size + 1 + 1))] 134)).alloc (.cells #[.slice none 0 0] 28)).alloc (.cells #[.func (.func 96) #[] #[.pointer (some ⟨w.heap.size + 1 + 1 + 1, 0, none⟩), .pointer (some ⟨w.heap.size + 1 + 1 + 1 + 1, 0, none⟩), .pointer (some ⟨w.heap.size, 0, none⟩), .pointer (some ⟨w.heap.size + 1 + 1 + 1 + 1 + 1, 0, none⟩)]] 135)
  simp only [World.size_alloc] at this
  exact this
/-- The first k nodes of the result stand in its row. -/
def FromL (w1 wr : World) (Z : Zone) (all : List NodeD) (od : List Int) (k : Nat) : Prop :=
 ∃ cur csl, Blk wr w1.heap.size 55 cur ∧ cur.size = od.length * 4 ∧ cur.toList.take (k * 4) = csl.flatten ∧
  NdL (fun b => (Z b ∨ w1.heap.size + 1 < b) ∧ b < wr.heap.size ∧ b ≠ w1.heap.size) wr ((od.take k).map (renum all od)) csl ∧
  Blk wr (w1.heap.size + 1) 34 #[.slice (some ⟨w1.heap.size, 0, none⟩) od.length od.length] ∧ Below w1.heap.size w1 wr
theorem fromL_start {w1 : World} {Z : Zone} {all : List NodeD} {od : List Int} {cz : Array Value} {n : Nat} (_h : n ≤ w1.heap.size) (hc : cz.size = od.length * 4) :
  FromL w1 ((w1.alloc (.cells cz 55)).alloc (.cells #[.slice (some ⟨w1.heap.size, 0, none⟩) od.length od.length] 34)) Z all od 0 := by
 refine ⟨cz, [], (Blk.new w1 _ cz).alloc _, hc, by simp, trivial, ?_, below2 w1 _ _⟩
 have := Blk.new (w1.alloc (.cells cz 55)) 34 #[.slice (some ⟨w1.heap.size, 0, none⟩) od.length od.length]
 simp only [World.size_alloc] at this
 exact this
theorem Tryz.szN : (Tryz.prog.info? 55).map (·.size) = some 4 := by kernel_rfl
theorem Row.live {Z : Zone} {w : World} {A : Option Addr} {xs : List Value} (h : Row Z w A xs) : Row (fun b => Z b ∧ b < w.heap.size) w A xs := fun hne => by
 obtain ⟨b, off, e, h1, hc⟩ := h hne
 obtain ⟨x, r, rfl⟩ := List.exists_cons_of_ne_nil hne
 exact ⟨b, off, e, ⟨h1, lt_of_cell (hc 0 x rfl)⟩, hc⟩
theorem Ints.live {Z : Zone} {w : World} {v : Value} {xs : List Int} (h : Ints Z w v xs) : Ints (fun b => Z b ∧ b < w.heap.size) w v xs := by
 obtain ⟨⟨A, cap, e, h1, h2, h2b, hr⟩, hf⟩ := h
 exact ⟨⟨A, cap, e, h1, h2, h2b, hr.live⟩, hf⟩
theorem NdL.rows {Z : Zone} {w : World} {b : Nat} (hb : Z b) : ∀ {fs : List NodeD} {csl : List (List Value)} {off : Nat}, NdL Z w fs csl → (∀ j u, csl.flatten[j]? = some u → w.cell? ⟨b, off + j, none⟩ = some u) → SeqR (NodeR Z w) 4 Z w fs (some ⟨b, off, none⟩)
 | [], [], _, _, _ => by unfold SeqR; trivial
 | f :: fs, c :: cs, off, h, hc => by
  unfold SeqR
  have hl : c.length = 4 := h.1.size
  refine ⟨b, off, c, rfl, hb, fun j u hu => ?_, h.1, NdL.rows hb h.2 fun j u hu => ?_⟩
  ·refine hc j u ?_
   rw [List.flatten_cons, List.getElem?_append_left (by have := List.getElem?_eq_some_iff.1 hu; obtain ⟨h, _⟩ := this; exact h)]; exact hu
  ·have := hc (4 + j) u (by rw [List.flatten_cons, List.getElem?_append_right (by omega)]; rw [show 4 + j - c.length = j by omega]; exact hu)
   rwa [show off + 4 + j = off + (4 + j) by omega]
 | [], _ :: _, _, h, _ => h.elim
 | _ :: _, [], _, h, _ => h.elim
theorem place_i64 {od : List Int} (hl : od.length ≤ 4000) (k : Int) : I64 (placeS od k) := by
 unfold placeS
 split
 ·rename_i h
  have := List.idxOf_lt_length_of_mem h
  unfold I64; omega
 ·unfold I64; omega
theorem below_setCells {B : Nat} {w wr : World} (h : Below B w wr) {g : Nat} (hg : B ≤ g) (o : Nat) (vs : List Value) : Below B w (wr.setCells g o vs) := by
 obtain ⟨s1, s2, s3, s4⟩ := size_setCells g vs o wr
 exact ⟨s2.trans h.os, s3.trans h.tape, s4.trans h.output, by rw [s1]; exact h.size, fun k hk => (heap_setCells_other g vs o wr k (by omega)).trans (h.block k hk)⟩
/-- One more node. -/
theorem fromL_step {w1 wv wr : World} {Z : Zone} {all : List NodeD} {od : List Int} {k : Nat} {cs : List Value} {nd : NodeD} (hL : FromL w1 wv Z all od k) (hk : k < od.length)
  (hb : Below wv.heap.size wv wr) (hn : NodeR (fun b => (Z b ∨ w1.heap.size + 1 < b) ∧ b < wr.heap.size ∧ b ≠ w1.heap.size) wr cs nd) (hget : (od.take (k + 1)).map (renum all od) = (od.take k).map (renum all od) ++ [nd]) :
  wr.there w1.heap.size (k * 4) 4 ∧ FromL w1 (wr.setCells w1.heap.size (k * 4) cs) Z all od (k + 1) := by
 obtain ⟨cur, csl, hgN, hcs, htk, hnd, hb9, hbel⟩ := hL
 have hg2 := hgN.below hb hgN.lt
 have hcl := hn.size
 obtain ⟨s1, s2, s3, s4⟩ := size_setCells w1.heap.size cs (k * 4) wr
 have hkp : Keeps (fun b => (Z b ∨ w1.heap.size + 1 < b) ∧ b < wr.heap.size ∧ b ≠ w1.heap.size) wr (wr.setCells w1.heap.size (k * 4) cs) := ⟨s2, s3, s4, Nat.le_of_eq s1.symm, fun b _ hb => heap_setCells_other _ _ _ _ _ hb.2.2⟩
 refine ⟨fun j hj => ?_, setFrom cur cs (k * 4), csl ++ [cs], hg2.setCells cs (k * 4) wr cur, ?_, ?_, ?_, ?_, ?_⟩
 ·obtain ⟨h1, h2⟩ := hg2.there (k * 4 + j) (by omega)
  rw [Nat.zero_add] at h1 h2
  exact ⟨h1, h2⟩
 ·have : ∀ (vs : List Value) (o : Nat) (c : Array Value), (setFrom c vs o).size = c.size := by
   intro vs
   induction vs with
   | nil => intro o c; rfl
   | cons v r ih => intro o c; unfold setFrom; rw [ih]; simp
  rw [this, hcs]
 ·apply List.ext_getElem?
  intro j
  rw [List.flatten_append, List.flatten_singleton, ← htk]
  have hk4 : (cur.toList.take (k * 4)).length = k * 4 := by simp; omega
  by_cases hj : j < (k + 1) * 4
  ·rw [List.getElem?_take_of_lt hj, Array.getElem?_toList, setFrom_get _ _ _ (by omega) j]
   by_cases hj2 : k * 4 ≤ j
   ·rw [if_pos (by omega), List.getElem?_append_right (by omega), hk4]
   ·rw [if_neg (by omega), List.getElem?_append_left (by omega), List.getElem?_take_of_lt (by omega), Array.getElem?_toList]
  ·rw [List.getElem?_eq_none (by simp; omega), List.getElem?_eq_none (by simp; omega)]
 ·rw [hget]
  have h1 : NodeR (fun b => (Z b ∨ w1.heap.size + 1 < b) ∧ b < (wr.setCells w1.heap.size (k * 4) cs).heap.size ∧ b ≠ w1.heap.size) (wr.setCells w1.heap.size (k * 4) cs) cs nd := by
   rw [s1]; exact hn.keep hkp
  refine NdL.snoc h1 ?_
  have h2 := ((hnd.keep (.of_below hb)).mono (Z' := fun b => (Z b ∨ w1.heap.size + 1 < b) ∧ b < wr.heap.size ∧ b ≠ w1.heap.size) fun b hb2 => ⟨hb2.1, Nat.lt_of_lt_of_le hb2.2.1 hb.size, hb2.2.2⟩).keep hkp
  exact h2.mono fun b hb => by rw [s1]; exact hb
 ·refine (hb9.below hb hb9.lt).keep (Z := fun b => b ≠ w1.heap.size) ⟨s2, s3, s4, Nat.le_of_eq s1.symm, fun b _ hb => heap_setCells_other _ _ _ _ _ hb⟩ (by omega)
 ·exact below_setCells (hbel.trans (hb.mono hbel.size)) (Nat.le_refl _) _ _
set_option maxRecDepth 100000 in
set_option maxHeartbeats 4000000 in
theorem from_any (ds : List FactD) (all : List NodeD) (hg : Good ds all) (hall : all.length ≤ 1000000) (M : Nat) (F Z : Nat → Prop) (i : Int) (w : World) (hi : Rng all i) (h : MkS w M all F Z) :
  Calls Tryz.prog 47 #[.pointer (some ⟨M, 0, none⟩), .int .i64 i] w (FromPost Z (fromS ds all i) w) := by
 have eg := Tryz.egFrom1
 have hmm := @run_makeMap Tryz.prog
 have hO := order_spec hg hi
 have hrk := rank_le (ds := ds) (g := all) i
 have HO := hid hO
 have HG := hid hg
 have HM := hid h
 have HI := hid hi
 have HV := hid (fun P O Mv V pb B W hC hO => visit_any ds all hg hall P O Mv V pb M B F Z (ds.length + 1) i [] W hi (by omega) (by simp) (by simp) hC hO)
 obtain ⟨hC0, hO0, hb0, hbx0, hs0⟩ := from_start h
 have HS0 := hid (And.intro hC0 (And.intro hO0 (And.intro hb0 (And.intro hbx0 hs0))))
 clear hO hg h hi hrk hC0 hO0 hb0 hbx0 hs0
 go_enter Tryz.func47, Tryz.ntmps47
 go_wp2_with fail
 refine (HV.out _ _ _ _ _ _ _ HS0.out.1 HS0.out.2.1).mono ?_
 rintro e w1 ⟨rfl, hO1, hk1⟩
 have HO2 := hid (show VisO w1 (w.heap.size + 1 + 1 + 1 + 1) (w.heap.size + 1 + 1) (w.heap.size + 1 + 1 + 1 + 1 + 1 + 1) (orderS ds all i) from hO1)
 have HC := hid (HS0.out.1.keep hk1)
 have hbx := HS0.out.2.2.2.1.keep hk1 (by show _ ∧ _ ∧ _; omega)
 have hbel := keeps_below (((below_keeps HS0.out.2.2.1)).trans (hk1.mono fun b _ hb => by show _ ∧ _ ∧ _; omega)) (Nat.le_refl _)
 have hsz1 := HC.out.size
 have HB := hid (And.intro hbx (And.intro hbel hsz1))
 clear hO1 hk1 hbx hbel HS0 HV
 have HLEN := hid HO.out.length_le
 have hlen : (orderS ds all i).length ≤ 1000000 := Nat.le_trans HO.out.length_le hall
 obtain ⟨vo, o0, oown, omap⟩ := HO2.out
 have oc := o0.cell
 have ol := o0.lt
 have HOO := hid (And.intro o0 (And.intro oown omap))
 have m1 := HC.out.m.cell
 have m1l := HC.out.m.lt
 have p1 := HC.out.p.cell
 have p1l := HC.out.p.lt
 have x1 : w1.cell? ⟨w.heap.size + 1, 0, none⟩ = some (.slice none 0 0) := HB.out.1.cell 0
 have x1f := HB.out.1.frozen 0
 have x1l := HB.out.1.lt
 have HFR := hid (show fromS ds all i = if 4000 < (orderS ds all i).length then ([], 2) else (canonS ds all i, 0) from rfl)
 have HCA := hid (show canonS ds all i = (orderS ds all i).map (renum all (orderS ds all i)) from rfl)
 generalize orderS ds all i = od at *
 obtain ⟨A, cap, rfl, -, -, orow⟩ := Row.of_own oown (by decide)
 have HROW := hid orow
 clear o0 oown omap HO2 orow
 by_cases hbig : 4000 < od.length
 ·have HE := hid (HFR.out.trans (if_pos hbig))
  have hb' : (4000 : Int) < (od.length : Int) := by omega
  go_wp2
  have hx := (HB.out.1.set_ 0 (.slice none 0 0))
  have r0 : (w1.setCell ⟨w.heap.size + 1, 0, none⟩ (.slice none 0 0)).cell? ⟨w.heap.size + 1, 0, none⟩ = some (.slice none 0 0) := hx.cell 0
  refine bodyPost_ret (v := .tuple #[.agg #[.slice none 0 0], .int .i64 2]) (by simp [results, Tryz.results47, go_sem, r0]) rfl ⟨.slice none 0 0, ?_, ?_, HB.out.2.1.setCell (by show w.heap.size ≤ w.heap.size + 1; omega) _⟩
  ·rw [HE.out]
  ·rw [HE.out]
   exact ⟨none, 0, rfl, Nat.le_refl _, by decide, by decide, trivial⟩
 ·have HE := hid (HFR.out.trans (if_neg hbig))
  have hb' : ¬ (4000 : Int) < (od.length : Int) := by omega
  obtain ⟨_, i0, z0, hi0, hz0, hsz0, hby0, hzs0⟩ := Tryz.eNode
  have hms := fun W => run_makeSlice (w := W) 32 55 i0 z0 Tryz.underlying32 hi0 hz0 .i64 .i64 (od.length : Int) (od.length : Int) (by omega) (Int.le_refl _) (by rw [hsz0, Int.toNat_natCast]; omega) (by rw [hby0]; omega) (by omega)
  have hcz := size_madeCells z0.cells (od.length * 4)
  simp only [Int.toNat_natCast, hsz0] at hms
  generalize madeCells z0.cells (od.length * 4) = cz at *
  clear hi0 hz0 hsz0 hby0 hzs0
  have HCZ := hid hcz
  have hol : od.length ≤ 4000 := by omega
  go_wp2
  have HBASE := hid (fromL_start (Z := Z) (all := all) (HB.out.2.2) hcz)
  clear hms hcz x1 x1f x1l
  go_loopw [29] (fun ix wr => ∃ k : Nat, k ≤ od.length ∧ ix = .int .i64 k ∧ FromL w1 wr Z all od k) (fun ix _ => od.length - (intOf ix).toNat)
  case atStart => exact ⟨0, Nat.zero_le _, rfl, HBASE.out⟩
  case round =>
   rename World => wv
   obtain ⟨k, hk, rfl, hL⟩ := hrel
   by_cases hkl : k < od.length
   ·obtain ⟨ob, ooff, rfl, -, hoc⟩ := HROW.out (by intro e; rw [List.map_eq_nil_iff] at e; rw [e] at hkl; simp at hkl)
    have hoc1 := hoc k (.int .i64 od[k]) (by simp [hkl])
    have hmem : od[k] ∈ od := List.getElem_mem hkl
    have hxr := HO.out.rng od[k] hmem
    have HKL := hid hkl
    have hget : (od.take (k + 1)).map (renum all od) = (od.take k).map (renum all od) ++ [renum all od od[k]] := by rw [List.take_succ_eq_append_getElem hkl, List.map_append]; rfl
    have HGET := hid hget
    generalize hx : od[k] = x at *
    have HX := hid hx
    clear hx hget hoc hmem
    obtain ⟨n, rfl⟩ := Int.eq_ofNat_of_zero_le hxr.1
    have hin : n < all.length := by have := hxr.2; omega
    have hni : (n : Int) < (all.length : Nat) := by omega
    have hn0 : (0 : Int) ≤ (n : Int) := by omega
    have hren : renum all od (n : Int) = ⟨all[n].leaf, all[n].fact, all[n].cuts, all[n].kids.map (placeS od)⟩ := by unfold renum; rw [nAt_nat hin]
    obtain ⟨cur, csl, hgN, hcs, htk, hnd, hb9, hbel⟩ := hL
    have hsz2 := hb9.lt
    obtain ⟨g, gcap, vc, vk, e2, hgF, e3, e4, e5, e6, hf, hic, hik⟩ := (HC.out.maker.below hbel).node_at hin
    have hc1 := hbel.cell (p := ⟨w.heap.size, 0, none⟩) m1l
    rw [m1] at hc1
    have hc2 := (hbel.cell (p := ⟨ob, ooff + k, none⟩) (lt_of_cell hoc1)).trans hoc1
    have hc3 := hbel.cell (p := ⟨w.heap.size + 1 + 1 + 1, 0, none⟩) p1l
    rw [p1] at hc3
    have l1 := lt_of_cell hc1
    have l2 := lt_of_cell hc2
    have l3 := lt_of_cell hc3
    have l4 := lt_of_cell e2
    have l5 := lt_of_cell e3
    have HN := hid (And.intro hf (And.intro hic hik))
    have HFL := hid (show FromL w1 wv Z all od k from ⟨cur, csl, hgN, hcs, htk, hnd, hb9, hbel⟩)
    have HL := hid (And.intro hgN (And.intro hcs (And.intro htk (And.intro hnd (And.intro hb9 hbel)))))
    rw [hren] at HGET
    obtain ⟨⟨AC, capC, rfl, -, -, -, -⟩, -⟩ := hic
    obtain ⟨⟨AK, capK, rfl, -, -, hk8, -⟩, -⟩ := hik
    have hkk : all[n].kids.length ≤ 17592186044416 := by omega
    clear hren hxr hgF hf hk8 hgN hcs htk hnd hb9 hbel hoc1 m1 m1l p1 p1l
    generalize all[n] = nd at *
    have HCL := hid (fun W (hb : Below wv.heap.size wv W) => cloneI_any Z (.slice AK nd.kids.length capK) nd.kids W (HN.out.2.2.keep (.of_below hb)))
    go_wp2_with fail
    refine (HCL.out _ (below1 _ _)).mono ?_
    rintro e w3 ⟨v3, rfl, hown3, hb3⟩
    have hbx3 := (Blk.new wv 55 #[.bool nd.leaf, .int .i64 nd.fact, .slice AC nd.cuts.length capC, .slice AK nd.kids.length capK]).below hb3 (by simp)
    have hbw3 := HBEL_trans (below1 wv _) hb3
    obtain ⟨A3, cap3, rfl, -, -, -⟩ := Row.of_own hown3 (by decide)
    have x3 : w3.cell? ⟨wv.heap.size, 3, none⟩ = some (.slice AK nd.kids.length capK) := hbx3.cell 3
    have x3f := hbx3.frozen 3
    have x3l := hbx3.lt
    have hown4 := own_keep (own_mono hown3 (show wv.heap.size + 1 ≤ _ by simp)) (w' := w3.setCell ⟨wv.heap.size, 3, none⟩ (.slice A3 nd.kids.length cap3)) ((Keeps.refl (fun b => b ≠ wv.heap.size) _).setCell (fun _ h => h rfl) _) (fun k hk e => by have := (hown3.lt k hk).1; simp at this; omega)
    have H4 := hid (And.intro (hbx3.set_ 3 (.slice A3 nd.kids.length cap3)) (And.intro (hbw3.setCell (p := ⟨wv.heap.size, 3, none⟩) (Nat.le_refl _) (.slice A3 nd.kids.length cap3)) hown4))
    clear hbx3 hbw3 hown3 hown4 hb3
    go_upto_region 14 with (fail)
    generalize (w3.setCell ⟨wv.heap.size, 3, none⟩ (.slice A3 nd.kids.length cap3)) = w4 at *
    have y3 : w4.cell? ⟨wv.heap.size, 3, none⟩ = some (.slice A3 nd.kids.length cap3) := H4.out.1.cell 3
    have y3l := H4.out.1.lt
    clear x3 x3f x3l e2 e3 e4 e5 e6 hc1 hc2 hc3 l1 l2 l3 l4 l5
    go_wp2
    go_loopw [49] (fun ix wr => ∃ x : Nat, x ≤ nd.kids.length ∧ ix = .int .i64 x ∧ wr.ownsRow (wv.heap.size + 1) 3 1 (.slice A3 nd.kids.length cap3) nd.kids.length (((nd.kids.take x).map (placeS od) ++ nd.kids.drop x).map (.int .i64)) ∧ Keeps (fun b => (Value.slice A3 nd.kids.length cap3).ownBlock ≠ some b) w4 wr) (fun ix _ => nd.kids.length - (intOf ix).toNat)
    case atStart => exact ⟨0, Nat.zero_le _, rfl, by simpa using H4.out.2.2, .refl _ _⟩
    case round =>
     obtain ⟨x, hx, rfl, hown, hkp⟩ := hrel
     clear y3 y3l
     by_cases hxl : x < nd.kids.length
     ·have hA3 : ∃ gc, A3 = some ⟨gc, 0, none⟩ ∧ wv.heap.size + 1 ≤ gc := by
       rcases hown.2 with ⟨_, h0⟩ | ⟨gc, c', cur', hv, hge, _⟩
       ·omega
       ·injection hv with hv; exact ⟨gc, hv, hge⟩
      obtain ⟨gc, rfl, hgc⟩ := hA3
      have hxs : (((nd.kids.take x).map (placeS od) ++ nd.kids.drop x).map (Value.int .i64))[x]? = some (.int .i64 nd.kids[x]) := by
       rw [List.getElem?_map, List.getElem?_append_right (by simp; omega)]
       simp [Nat.min_eq_left (Nat.le_of_lt hxl), hxl]
      obtain ⟨hcx, hcf⟩ := own_cell1 hown hxs
      have hcl := lt_of_cell hcx
      have hb3x : wr.cell? ⟨wv.heap.size, 3, none⟩ = some (.slice (some ⟨gc, 0, none⟩) nd.kids.length cap3) := hkp.cell (by show some gc ≠ some wv.heap.size; intro e; injection e with e; omega) (H4.out.1.cell 3)
      have hkw : ∀ b, b < w1.heap.size → wr.heap[b]? = w1.heap[b]? := fun b hb => by
       have h1 := HL.out.2.2.2.2.2
       rw [hkp.block b (by have := h1.size; have := H4.out.2.1.size; omega) (by show some gc ≠ some b; intro e; injection e with e; have := h1.size; omega), H4.out.2.1.block b (by have := h1.size; omega), h1.block b hb]
      have hP := HC.out.p.of_block (hkw _ HC.out.p.lt)
      have hpc := hP.cell
      have hpl := hP.lt
      have hmp := HOO.out.2.2.of_block (hkw _ HOO.out.2.2.lt)
      have hset : ((nd.kids.take (x + 1)).map (placeS od) ++ nd.kids.drop (x + 1)).map (Value.int .i64) = (((nd.kids.take x).map (placeS od) ++ nd.kids.drop x).map (Value.int .i64)).set x (.int .i64 (placeS od nd.kids[x])) := set_step nd.kids (placeS od) hxl
      have HSET := hid hset
      have hown' : wr.drew.ownsRow (wv.heap.size + 1) 3 1 (.slice (some ⟨gc, 0, none⟩) nd.kids.length cap3) nd.kids.length (((nd.kids.take x).map (placeS od) ++ nd.kids.drop x).map (.int .i64)) := hown
      have hkp' : Keeps (fun b => (Value.slice (some ⟨gc, 0, none⟩) nd.kids.length cap3).ownBlock ≠ some b) w4 wr.drew := hkp.drew
      have HX2 := hid (And.intro (own_set1 hown' x (.int .i64 (placeS od nd.kids[x]))) (hkp'.setCell (p := ⟨gc, x, none⟩) (fun _ h => h rfl) (.int .i64 (placeS od nd.kids[x]))))
      have hbl9 := lt_of_cell hb3x
      have HLK := hid (fun (W : World) (h : MapIs encI W (w.heap.size + 1 + 1) (kvO od 0)) => (show (Instr.lookup 134 (.map (some (w.heap.size + 1 + 1))) (.int .i64 nd.kids[x]) false).run Tryz.prog W = .ok (.int .i64 (placeS od nd.kids[x])) W from (Tryz.lookII h nd.kids[x] false).trans (by rw [place_look])))
      clear hown hkp hxs hkw hP hset hown' hkp'
      generalize placeS od nd.kids[x] = px at *
      generalize nd.kids[x] = kx at *
      go_wp2
      refine wp_region_S 11 (fun W => W.cell? ⟨wv.heap.size, 3, none⟩ = some (.slice (some ⟨gc, 0, none⟩) nd.kids.length cap3) ∧ W.cell? ⟨w.heap.size + 1 + 1 + 1, 0, none⟩ = some (.map (some (w.heap.size + 1 + 1))) ∧ W.cell? ⟨gc, x, none⟩ = some (.int .i64 kx) ∧ MapIs encI W (w.heap.size + 1 + 1) (kvO od 0)) (by kernel_rfl) ?_
      have hS : (fun W : World => W.cell? ⟨wv.heap.size, 3, none⟩ = some (.slice (some ⟨gc, 0, none⟩) nd.kids.length cap3) ∧ W.cell? ⟨w.heap.size + 1 + 1 + 1, 0, none⟩ = some (.map (some (w.heap.size + 1 + 1))) ∧ W.cell? ⟨gc, x, none⟩ = some (.int .i64 kx) ∧ MapIs encI W (w.heap.size + 1 + 1) (kvO od 0)) wr.drew := ⟨hb3x, hpc, hcx, hmp⟩
      have hcx6 : wr.drew.cell? ⟨gc, x, none⟩ = some (.int .i64 kx) := hcx
      have hcf6 : wr.drew.frozen? ⟨gc, x, none⟩ = false := hcf
      have hcl6 : gc < wr.drew.heap.size := hcl
      clear hcx hcf hcl hb3x hpc hmp hpl hbl9
      generalize wr.drew = w6 at *
      (refine wpAnyS_take (i := 0) (v := ?_) rfl (by kernel_rfl) (by kernel_rfl) (fun _ _ _ h => h) (Or.inl ⟨by rfl, ?_⟩) hS ?_; rotate_left; (intro w hSw; obtain ⟨h1, h2, h3, h4⟩ := hSw; go_simp; (try with_reducible rfl)); ((try simp only [Act.put]); (try simp only [nrA]); (try simp only [nrB]); (try simp only [nrC])))
      (refine wpAnyS_take (i := 1) (v := ?_) rfl (by kernel_rfl) (by kernel_rfl) (fun _ _ _ h => h) (Or.inl ⟨by rfl, ?_⟩) hS ?_; rotate_left; (intro w hSw; obtain ⟨h1, h2, h3, h4⟩ := hSw; go_simp; (try with_reducible rfl)); ((try simp only [Act.put]); (try simp only [nrA]); (try simp only [nrB]); (try simp only [nrC])))
      (refine wpAnyS_take0 (i := 2) (v := ?_) rfl (by kernel_rfl) (by kernel_rfl) (fun _ _ _ h => h) (Or.inl ⟨by rfl, ?_⟩) (Or.inr hS) ?_; rotate_left; (intro w hSw; clear hSw; go_simp; (try with_reducible rfl)); ((try simp only [Act.put]); (try simp only [nrA]); (try simp only [nrB]); (try simp only [nrC])))
      (refine wpAnyS_take (i := 3) (v := ?_) rfl (by kernel_rfl) (by kernel_rfl) (fun _ _ _ h => h) (Or.inl ⟨by rfl, ?_⟩) hS ?_; rotate_left; (intro w hSw; obtain ⟨h1, h2, h3, h4⟩ := hSw; go_simp; (try with_reducible rfl)); ((try simp only [Act.put]); (try simp only [nrA]); (try simp only [nrB]); (try simp only [nrC])))
      (refine wpAnyS_take (i := 4) (v := ?_) rfl (by kernel_rfl) (by kernel_rfl) (fun _ _ _ h => h) (Or.inl ⟨by rfl, ?_⟩) hS ?_; rotate_left; (intro w hSw; obtain ⟨h1, h2, h3, h4⟩ := hSw; go_simp; (try with_reducible rfl)); ((try simp only [Act.put]); (try simp only [nrA]); (try simp only [nrB]); (try simp only [nrC])))
      (refine wpAnyS_take (i := 5) (v := ?_) rfl (by kernel_rfl) (by kernel_rfl) (fun _ _ _ h => h) (Or.inl ⟨by rfl, ?_⟩) hS ?_; rotate_left; (intro w hSw; obtain ⟨h1, h2, h3, h4⟩ := hSw; go_simp; (try with_reducible rfl)); ((try simp only [Act.put]); (try simp only [nrA]); (try simp only [nrB]); (try simp only [nrC])))
      (refine wpAnyS_take0 (i := 6) (v := ?_) rfl (by kernel_rfl) (by kernel_rfl) (fun _ _ _ h => h) (Or.inl ⟨by rfl, ?_⟩) (Or.inr hS) ?_; rotate_left; (intro w hSw; clear hSw; go_simp; (try with_reducible rfl)); ((try simp only [Act.put]); (try simp only [nrA]); (try simp only [nrB]); (try simp only [nrC])))
      (refine wpAnyS_take0 (i := 7) (v := ?_) rfl (by kernel_rfl) (by kernel_rfl) (fun _ _ _ h => h) (Or.inl ⟨by rfl, ?_⟩) (Or.inr hS) ?_; rotate_left; (intro w hSw; clear hSw; go_simp; (try with_reducible rfl)); ((try simp only [Act.put]); (try simp only [nrA]); (try simp only [nrB]); (try simp only [nrC])))
      (refine wpAnyS_take (i := 8) (v := ?_) rfl (by kernel_rfl) (by kernel_rfl) (fun _ _ _ h => h) (Or.inl ⟨by rfl, ?_⟩) hS ?_; rotate_left; (intro w hSw; obtain ⟨h1, h2, h3, h4⟩ := hSw; go_simp; (try with_reducible rfl)); ((try simp only [Act.put]); (try simp only [nrA]); (try simp only [nrB]); (try simp only [nrC])))
      (refine wpAnyS_take (i := 9) (v := ?_) rfl (by kernel_rfl) (by kernel_rfl) (fun _ _ _ h => h) (Or.inl ⟨by rfl, ?_⟩) hS ?_; rotate_left; (intro w hSw; obtain ⟨h1, h2, h3, h4⟩ := hSw; have hlk := HLK.out _ h4; go_simp; (try with_reducible rfl)); ((try simp only [Act.put]); (try simp only [nrA]); (try simp only [nrB]); (try simp only [nrC])))
      (refine wpAnyS_take0 (i := 10) (v := ?_) rfl (by kernel_rfl) (by kernel_rfl) (fun _ _ _ h => h) (Or.inl ⟨by rfl, ?_⟩) (Or.inr hS) ?_; rotate_left; (intro w hSw; clear hSw; go_simp; (try with_reducible rfl)); ((try simp only [Act.put]); (try simp only [nrA]); (try simp only [nrB]); (try simp only [nrC])))
      refine wpAnyS_one (i := 11) (by kernel_rfl) rfl rfl (fun K hK => ?_)
      go_wp2_with fail
      refine hK _ _ (Or.inl rfl) ?_
      clear hK K hS hcx6 hcf6 hcl6
      ((try simp only [Act.put]); (try simp only [nrA]); (try simp only [nrB]); (try simp only [nrC]))
      refine wpAnyS_done (by kernel_rfl) ?_ _
      go_wp2
      go_roundw
      case rel =>
       refine ⟨x + 1, by omega, by go_num, ?_, HX2.out.2⟩
       rw [HSET.out]
       exact HX2.out.1
      case measure => simp [intOf]; omega
     ·obtain rfl : x = nd.kids.length := by omega
      have hne : ∀ b, b ≤ wv.heap.size → (Value.slice A3 nd.kids.length cap3).ownBlock ≠ some b := fun b hb e => by have := (hown.lt b e).1; omega
      have hkb : Below wv.heap.size wv wr := H4.out.2.1.trans ⟨hkp.os, hkp.tape, hkp.output, hkp.size, fun b hb => hkp.block b (by have := H4.out.2.1.size; omega) (hne b (by omega))⟩
      have hbx4 := H4.out.1.keep hkp (hne _ (Nat.le_refl _))
      rw [List.take_length, List.drop_length, List.append_nil] at hown
      have hki : Ints (fun b => wv.heap.size + 1 ≤ b ∧ b < wr.heap.size) wr (.slice A3 nd.kids.length cap3) (nd.kids.map (placeS od)) := by
       refine (Ints.of_own (xs := nd.kids.map (placeS od)) hown (fun x hx => ?_) (by rw [List.length_map]; omega)).live
       obtain ⟨y, _, rfl⟩ := List.mem_map.1 hx
       exact place_i64 hol y
      have hw19 := HL.out.2.2.2.2.1.lt
      have hnr : NodeR (fun b => (Z b ∨ w1.heap.size + 1 < b) ∧ b < wr.heap.size ∧ b ≠ w1.heap.size) wr [.bool nd.leaf, .int .i64 nd.fact, .slice AC nd.cuts.length capC, .slice A3 nd.kids.length cap3] ⟨nd.leaf, nd.fact, nd.cuts, nd.kids.map (placeS od)⟩ :=
       ⟨_, _, rfl, HN.out.1, (HN.out.2.1.keep (.of_below hkb)).live.mono fun b hb => ⟨Or.inl hb.1, hb.2, by have := HM.out.liveZ b hb.1; omega⟩, hki.mono fun b hb => ⟨Or.inr (by omega), hb.2, by omega⟩⟩
      have hst := fromL_step (all := all) (od := od) HFL.out HKL.out hkb hnr HGET.out
      have HST := hid hst.2
      have hth := hst.1
      have hc0 : wr.cell? ⟨wv.heap.size, 0, none⟩ = some (.bool nd.leaf) := hbx4.cell 0
      have hc1 : wr.cell? ⟨wv.heap.size, 1, none⟩ = some (.int .i64 nd.fact) := hbx4.cell 1
      have hc2 : wr.cell? ⟨wv.heap.size, 2, none⟩ = some (.slice AC nd.cuts.length capC) := hbx4.cell 2
      have hc3 : wr.cell? ⟨wv.heap.size, 3, none⟩ = some (.slice A3 nd.kids.length cap3) := hbx4.cell 3
      have hd0 : wr.cell? ⟨w1.heap.size + 1, 0, none⟩ = some (.slice (some ⟨w1.heap.size, 0, none⟩) od.length od.length) := (HL.out.2.2.2.2.1.below hkb hw19).cell 0
      have hdl := lt_of_cell hd0
      have hcl := hbx4.lt
      have hkl := HKL.out
      clear hne hkb hbx4 hown hki hnr hst hkp hw19
      go_wp2_with (refine wpList_store_mid rfl 55 (.tmp 68) (.tmp 67) rfl w1.heap.size (k * 4) #[.bool nd.leaf, .int .i64 nd.fact, .slice AC nd.cuts.length capC, .slice A3 nd.kids.length cap3] rfl rfl hth Tryz.szN (by simp [Value.oneCell']) ?_)
      go_roundw
      case rel => exact ⟨k + 1, by omega, by go_num, HST.out⟩
      case measure => simp [intOf]; omega
   ·obtain rfl : k = od.length := by omega
    obtain ⟨cur, csl, hgN, hcs, htk, hnd, hb9, hbel⟩ := hL
    have hd0 : wv.cell? ⟨w1.heap.size + 1, 0, none⟩ = some (.slice (some ⟨w1.heap.size, 0, none⟩) od.length od.length) := hb9.cell 0
    have hdl := hb9.lt
    have hx9 := HB.out.1.below hbel HB.out.1.lt
    have hx0 : wv.cell? ⟨w.heap.size + 1, 0, none⟩ = some (.slice none 0 0) := hx9.cell 0
    have hxf := hx9.frozen 0
    have hxl := hx9.lt
    have hol2 := HC.out.size
    have HP := hid (show Nodes (fun b => Z b ∨ w.heap.size ≤ b) (wv.setCell ⟨w.heap.size + 1, 0, none⟩ (.slice (some ⟨w1.heap.size, 0, none⟩) od.length od.length)) (.slice (some ⟨w1.heap.size, 0, none⟩) od.length od.length) (fromS ds all i).1 ∧ Below w.heap.size w (wv.setCell ⟨w.heap.size + 1, 0, none⟩ (.slice (some ⟨w1.heap.size, 0, none⟩) od.length od.length)) from by
     have hle : (od.map (renum all od)).length = od.length := List.length_map _
     refine ⟨?_, (HB.out.2.1.trans (hbel.mono (by omega))).setCell (by show w.heap.size ≤ w.heap.size + 1; omega) _⟩
     rw [HE.out, HCA.out]
     refine Nodes.keep (Z := fun b => (Z b ∨ w1.heap.size ≤ b)) ?_ ((Keeps.refl _ _).setCell (fun _ h => ?_) _) |>.mono fun b hb => hb.imp_right fun h => by omega
     ·refine ⟨some ⟨w1.heap.size, 0, none⟩, od.length, by rw [hle], by rw [hle]; exact Nat.le_refl _, by omega, by rw [hle]; omega, ?_⟩
      rw [List.take_length] at hnd
      refine NdL.rows (Or.inr (Nat.le_refl _)) (hnd.mono fun b hb => hb.1.imp_right fun h => by omega) fun j u hu => ?_
      rw [Nat.zero_add, hgN.cell]
      rw [← htk, List.take_of_length_le (by simp; omega), Array.getElem?_toList] at hu
      exact hu
     ·rcases h with h | h
      ·exact absurd (HM.out.liveZ _ h) (by show ¬ (w.heap.size + 1 < w.heap.size); omega)
      ·simp at h; omega)
    have HE1 := hid (show (fromS ds all i).2 = 0 from by rw [HE.out])
    have HR0 := hid ((hx9.set_ 0 (.slice (some ⟨w1.heap.size, 0, none⟩) od.length od.length)).cell 0)
    clear hgN hcs htk hnd hb9 hbel hx9 m1 m1l p1 p1l hol2
    go_wp2
    have r0 : (wv.setCell ⟨w.heap.size + 1, 0, none⟩ (.slice (some ⟨w1.heap.size, 0, none⟩) od.length od.length)).cell? ⟨w.heap.size + 1, 0, none⟩ = some (.slice (some ⟨w1.heap.size, 0, none⟩) od.length od.length) := HR0.out
    refine bodyPost_ret (v := .tuple #[.agg #[.slice (some ⟨w1.heap.size, 0, none⟩) od.length od.length], .int .i64 0]) (by simp [results, Tryz.results47, go_sem, r0]) rfl ⟨_, ?_, HP.out.1, HP.out.2⟩
    rw [HE1.out]
end Go.Proofs.YtcigjmlileckhaaGreatDoor
