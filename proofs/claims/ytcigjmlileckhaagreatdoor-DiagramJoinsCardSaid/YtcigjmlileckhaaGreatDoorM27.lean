/- Plain: the values from which on a formula may change, as the library computes them. No program in sight. Walk of diagram.starts. Walk of diagram.tested. -/
import Derived.Test.YtcigjmlileckhaaGreatDoorM24
import Derived.Lib.SlicesCompact
import Derived.Test.YtcigjmlileckhaaGreatDoorM26
import Derived.Lib.OwnBridge
import Derived.Sort.OwnSortedInts
/- Plain: the values from which on a formula may change, as the library computes them. No program in sight. -/
namespace Go.Proofs.YtcigjmlileckhaaGreatDoor
open Go.RowKit
theorem compactTo_spec (d : Array Int) (hs : ∀ i j, i ≤ j → j < d.size → d[i]! ≤ d[j]!) : ∀ m, m ≤ d.size → (Lib.compactUpTo d m).Pairwise (· < ·) ∧ ∀ v, v ∈ Lib.compactUpTo d m ↔ ∃ j, j < m ∧ d[j]! = v
 | 0, _ => by simp [Lib.compactUpTo]
 | m + 1, hm => by
  obtain ⟨h1, h2⟩ := compactTo_spec d hs m (by omega)
  rw [Lib.compactUpTo_succ]
  by_cases hk : Lib.keeps d m = true
  ·rw [if_pos hk]
   refine ⟨List.pairwise_append.2 ⟨h1, by simp, fun a ha b hb => ?_⟩, fun v => ?_⟩
   ·rw [List.mem_singleton] at hb
    subst hb
    obtain ⟨j, hj, rfl⟩ := (h2 a).1 ha
    have e1 := hs j (m - 1) (by omega) (by omega)
    have e2 := hs (m - 1) m (by omega) (by omega)
    unfold Lib.keeps at hk
    simp at hk
    omega
   ·rw [List.mem_append, h2, List.mem_singleton]
    constructor
    ·rintro (⟨j, hj, rfl⟩ | rfl)
     ·exact ⟨j, by omega, rfl⟩
     ·exact ⟨m, by omega, rfl⟩
    ·rintro ⟨j, hj, rfl⟩
     by_cases h : j = m
     ·subst h; exact Or.inr rfl
     ·exact Or.inl ⟨j, by omega, rfl⟩
  ·rw [if_neg hk, List.append_nil]
   refine ⟨h1, fun v => ?_⟩
   rw [h2]
   unfold Lib.keeps at hk
   simp at hk
   constructor
   ·rintro ⟨j, hj, rfl⟩; exact ⟨j, by omega, rfl⟩
   ·rintro ⟨j, hj, rfl⟩
    by_cases h : j = m
    ·subst h; exact ⟨j - 1, by omega, by omega⟩
    ·exact ⟨j, by omega, rfl⟩
theorem compact_spec {l : List Int} (hs : l.Pairwise (· ≤ ·)) : (Lib.compact l).Pairwise (· < ·) ∧ ∀ v, v ∈ Lib.compact l ↔ v ∈ l := by
 have h := compactTo_spec l.toArray (fun i j hij hj => by
  have hj' : j < l.length := by simpa using hj
  rw [getElem!_pos l.toArray i (by simp; omega), getElem!_pos l.toArray j hj]
  simp only [List.getElem_toArray]
  rcases Nat.lt_or_ge i j with h | h
  ·exact List.pairwise_iff_getElem.1 hs i j (by omega) hj' h
  ·obtain rfl : i = j := by omega
   exact Int.le_refl _) l.length (by simp)
 refine ⟨h.1, fun v => (h.2 v).trans ⟨?_, fun hv => ?_⟩⟩
 ·rintro ⟨j, hj, rfl⟩
  rw [getElem!_pos l.toArray j (by simpa using hj)]
  simp
 ·obtain ⟨j, hj, rfl⟩ := List.getElem_of_mem hv
  exact ⟨j, hj, by rw [getElem!_pos l.toArray j (by simpa using hj)]; simp⟩
theorem asc_of_pairwise {hi : Int} : ∀ {l : List Int} {lo : Int}, (lo :: l).Pairwise (· < ·) → (∀ v ∈ l, v ≤ hi) → ascFrom lo hi l
 | [], _, _, _ => trivial
 | a :: r, lo, h, hh => by
  rw [List.pairwise_cons] at h
  exact ⟨h.1 a (by simp), hh a (by simp), asc_of_pairwise h.2 fun v hv => hh v (by simp [hv])⟩
/-- What sort, delete and compact leave. -/
theorem starts_lib {f : Fm} {x : FactD} (hx : x.lo ≤ x.hi) (p : Int → Bool) (hp : ∀ n, p n = true ↔ n < x.lo ∨ x.hi < n) :
  Lib.compact ((((x.lo :: (testN x.name f).flatMap fun n => [n, n + 1]).mergeSort fun a b => decide (a ≤ b))).filter fun n => !p n) = startsS f x := by
 generalize hq : ((testN x.name f).flatMap fun n => [n, n + 1]) = q
 have hsort : ((x.lo :: q).mergeSort fun a b => decide (a ≤ b)).Pairwise (· ≤ ·) := by
  have := List.pairwise_mergeSort (le := fun a b : Int => decide (a ≤ b)) (fun a b c h1 h2 => by simp at h1 h2 ⊢; omega) (fun a b => by simp; omega) (x.lo :: q)
  exact this.imp fun h => by simpa using h
 obtain ⟨h1, h2⟩ := compact_spec (hsort.filter fun n => !p n)
 generalize Lib.compact (((x.lo :: q).mergeSort fun a b => decide (a ≤ b)).filter fun n => !p n) = L at *
 have hmem : ∀ v, v ∈ L ↔ (v = x.lo ∨ v ∈ q) ∧ x.lo ≤ v ∧ v ≤ x.hi := fun v => by
  rw [h2, List.mem_filter, List.mem_mergeSort, List.mem_cons]
  have := hp v
  cases hpv : p v
  ·rw [hpv] at this; simp at this ⊢; omega
  ·rw [hpv] at this; simp at this ⊢; omega
 have hlo : x.lo ∈ L := (hmem _).2 ⟨Or.inl rfl, Int.le_refl _, hx⟩
 cases L with
 | nil => simp at hlo
 | cons a r =>
  rw [List.pairwise_cons] at h1
  have ha : a = x.lo := by
   have := ((hmem a).1 (by simp)).2.1
   rcases List.mem_cons.1 hlo with h | h
   ·exact h.symm
   ·have := h1.1 _ h; omega
  subst ha
  unfold startsS
  rw [hq]
  congr 1
  refine asc_ext (asc_of_pairwise (lo := x.lo) (hi := x.hi) (List.pairwise_cons.2 h1) fun v hv => ((hmem v).1 (by simp [hv])).2.2) (ascOf_asc fun v hv => by simpa using (List.mem_filter.1 hv).2) fun v => ?_
  rw [ascOf_mem, List.mem_filter]
  constructor
  ·intro hv
   have h3 := (hmem v).1 (by simp [hv])
   have h4 := h1.1 v hv
   rcases h3.1 with h | h
   ·omega
   ·exact ⟨h, by simp; omega⟩
  ·rintro ⟨hv, h3⟩
   simp at h3
   rcases List.mem_cons.1 ((hmem v).2 ⟨Or.inr hv, by omega, by omega⟩) with h | h
   ·omega
   ·exact h
end Go.Proofs.YtcigjmlileckhaaGreatDoor
/- Walk of diagram.starts. -/
namespace Go.Proofs.YtcigjmlileckhaaGreatDoor
open Go.RowKit
set_option maxRecDepth 100000 in
theorem starts2_any (X : Nat) (x : FactD) (n : Int) (w : World) (h : Blk w X 82 #[.string x.name, .int .i64 x.kind, .int .i64 x.lo, .int .i64 x.hi]) :
  Calls Tryz.prog 93 #[.int .i64 n, .pointer (some ⟨X, 0, none⟩)] w fun e w' => e = .returned (.bool (decide (n < x.lo) || decide (x.hi < n))) ∧ w' = w := by
 have c2 : w.cell? ⟨X, 2, none⟩ = some (.int .i64 x.lo) := h.cell 2
 have c3 : w.cell? ⟨X, 3, none⟩ = some (.int .i64 x.hi) := h.cell 3
 have cl := h.lt
 generalize x.lo = lo at *
 generalize x.hi = hi at *
 clear h
 go_enter Tryz.func93, Tryz.ntmps93
 by_cases h1 : n < lo
 ·go_wp2
  exact bodyPost_ret (v := .bool true) (by simp [results, Tryz.results93, go_sem]) rfl ⟨by simp [h1], rfl⟩
 ·by_cases h2 : hi < n
  ·go_wp2
   exact bodyPost_ret (v := .bool true) (by simp [results, Tryz.results93, go_sem]) rfl ⟨by simp, rfl⟩
  ·go_wp2
   exact bodyPost_ret (v := .bool false) (by simp [results, Tryz.results93, go_sem]) rfl ⟨by simp [h1, h2], rfl⟩
open Go.Sort in
theorem keeps_put {w : World} {g n : Nat} (d : Array Int) (os : Array Obj) : Keeps (fun b => b ≠ g) w (grow (putRow (Value.int .i64) (Sort.ahead w n) g 0 d) os) := by
 have h := grownBy_sortedI (w := w) (g := g) (n := n) (os := os) d
 exact (Keeps.refl _ _).grown h (fun k hk _ hz => hz (Option.some.inj hk).symm)
open Go.Sort in
theorem own_slice {w : World} {base g n cap : Nat} {e : TypeId} {zs : List Int} (h : w.ownsRow base e 1 (.slice (some ⟨g, 0, none⟩) n cap) n (zs.map (.int .i64))) :
  base ≤ g ∧ g < w.heap.size ∧ n ≤ cap ∧ cap ≤ maxLen ∧ zs.length = n ∧ Holds (Value.int .i64) w g 0 zs.toArray := by
 obtain ⟨g', cap', e, h1, h2, h3, h4, h5, h6⟩ := Lib.holds_of_ownsRow h (by simp)
 injection e with e1 e2 e3
 injection e1 with e1
 injection e1 with e1
 subst e1 e3
 exact ⟨h1, h2, h3, h4, h5, h6⟩
theorem sort_own {w : World} {base g n cap : Nat} {zs : List Int} (h : w.ownsRow base 3 1 (.slice (some ⟨g, 0, none⟩) n cap) n (zs.map (.int .i64))) (hn : n < 4611686018427387904) :
  Calls Tryz.prog 71 #[.slice (some ⟨g, 0, none⟩) n cap] w fun e w' => e = .returned (.tuple #[]) ∧ w'.ownsRow base 3 1 (.slice (some ⟨g, 0, none⟩) n cap) n ((zs.mergeSort fun x y => decide (x ≤ y)).map (.int .i64)) ∧ Keeps (fun b => b ≠ g) w w' := by
 obtain ⟨h1, h2, h3, h4, h5, h6⟩ := own_slice h
 subst h5
 refine (Tryz.slices_Sort_int g 0 cap zs w h6 h2 hn).mono ?_
 rintro e w' ⟨rfl, q, os, rfl⟩
 refine ⟨rfl, ?_, keeps_put _ _⟩
 rcases h.2 with ⟨e0, _⟩ | ⟨g', cap', cur, e0, hb, hg, hn', hm, hs, ht⟩
 ·cases e0
 ·injection e0 with e1 _ e3
  injection e1 with e1
  injection e1 with e1
  subst e1 e3
  exact ownsRow_sortedI (ss := zs) (by simp) hb hg hn' hm hs
theorem put_own {w : World} {base g n cap q : Nat} {e : TypeId} {zs ys : List Int} {m : Nat} (h : w.ownsRow base e 1 (.slice (some ⟨g, 0, none⟩) n cap) n (zs.map (.int .i64))) (hm : ys.length + m = n) :
  (Sort.putRow (Value.int .i64) (Sort.ahead w q) g 0 (ys ++ List.replicate m 0).toArray).ownsRow base e 1 (.slice (some ⟨g, 0, none⟩) ys.length cap) ys.length (ys.map (.int .i64)) ∧ Keeps (fun b => b ≠ g) w (Sort.putRow (Value.int .i64) (Sort.ahead w q) g 0 (ys ++ List.replicate m 0).toArray) := by
 refine ⟨?_, ?_⟩
 ·have := Lib.ownsRow_putRow (q := q) (k := ys.length) (ys := ys ++ List.replicate m 0) h (by simp; omega) (by omega)
  simpa using this
 ·have := keeps_put (w := w) (g := g) (n := q) (ys ++ List.replicate m 0).toArray #[]
  rwa [Sort.grow_empty] at this
theorem delete_own {w : World} {base g n cap X : Nat} {zs : List Int} {x : FactD} (h : w.ownsRow base 3 1 (.slice (some ⟨g, 0, none⟩) n cap) n (zs.map (.int .i64))) (hX : Blk w X 82 #[.string x.name, .int .i64 x.kind, .int .i64 x.lo, .int .i64 x.hi]) (hne : X ≠ g) :
  Calls Tryz.prog 92 #[.slice (some ⟨g, 0, none⟩) n cap, .func (.func 93) #[] #[.pointer (some ⟨X, 0, none⟩)]] w fun e w' =>
   ∃ ys, ys = zs.filter (fun n => !(decide (n < x.lo) || decide (x.hi < n))) ∧ e = .returned (.slice (some ⟨g, 0, none⟩) ys.length cap) ∧ w'.ownsRow base 3 1 (.slice (some ⟨g, 0, none⟩) ys.length cap) ys.length (ys.map (.int .i64)) ∧ Keeps (fun b => b ≠ g) w w' := by
 obtain ⟨h1, h2, h3, h4, h5, h6⟩ := own_slice h
 have hmx : cap ≤ 9223372036854775807 := by simpa [maxLen] using h4
 subst h5
 have hd := Tryz.slices_DeleteFunc (Value.int .i64) (fun _ => rfl) (fun n => decide (n < x.lo) || decide (x.hi < n)) 93 #[.pointer (some ⟨X, 0, none⟩)] Tryz.egStarts2 0 Tryz.zeroInt g 0 cap zs.toArray w
  (fun W n hb => (starts2_any X x n W (hX.below hb hX.lt)).mono fun e w' h => ⟨h.1, 0, h.2⟩)
  (fun m os dk n _ => (starts2_any X x n _ (hX.keep (keeps_put dk os) hne)).mono fun e w' h => ⟨h.1, 0, h.2⟩) h6 (by simp; omega) (by simpa using h3)
 refine hd.mono ?_
 rintro e w' ⟨rfl, q, rfl⟩
 have hle : (zs.filter (fun n => !(decide (n < x.lo) || decide (x.hi < n)))).length ≤ zs.length := List.length_filter_le _ _
 obtain ⟨p1, p2⟩ := put_own (q := q) (ys := zs.filter (fun n => !(decide (n < x.lo) || decide (x.hi < n)))) (m := zs.length - (zs.filter (fun n => !(decide (n < x.lo) || decide (x.hi < n)))).length) h (by omega)
 exact ⟨_, rfl, rfl, p1, p2⟩
theorem compact_own {w : World} {base g n cap : Nat} {zs : List Int} (h : w.ownsRow base 3 1 (.slice (some ⟨g, 0, none⟩) n cap) n (zs.map (.int .i64))) :
  Calls Tryz.prog 72 #[.slice (some ⟨g, 0, none⟩) n cap] w fun e w' =>
   ∃ ys, ys = Lib.compact zs ∧ e = .returned (.slice (some ⟨g, 0, none⟩) ys.length cap) ∧ w'.ownsRow base 3 1 (.slice (some ⟨g, 0, none⟩) ys.length cap) ys.length (ys.map (.int .i64)) ∧ Keeps (fun b => b ≠ g) w w' := by
 obtain ⟨h1, h2, h3, h4, h5, h6⟩ := own_slice h
 have hmx : cap ≤ 9223372036854775807 := by simpa [maxLen] using h4
 subst h5
 refine (Tryz.slices_Compact_int g 0 cap zs w h6 (by omega) h3).mono ?_
 rintro e w' ⟨rfl, q, rfl⟩
 have hle := Lib.compact_length_le zs
 obtain ⟨p1, p2⟩ := put_own (q := q) (ys := Lib.compact zs) (m := zs.length - (Lib.compact zs).length) h (by omega)
 exact ⟨_, rfl, rfl, p1, p2⟩
def startsW (w : World) (fc : Array Value) (x : FactD) : World :=
 ((((w.alloc (.cells fc 24)).alloc (.cells #[.string x.name, .int .i64 x.kind, .int .i64 x.lo, .int .i64 x.hi] 82)).alloc (.cells #[.int .i64 x.lo] 3)).alloc (.cells #[.slice (some ⟨w.heap.size + 1 + 1, 0, none⟩) 1 1] 28)).alloc
  (.cells #[.func (.func 91) #[] #[.pointer (some ⟨w.heap.size + 1, 0, none⟩), .pointer (some ⟨w.heap.size + 1 + 1 + 1, 0, none⟩), .pointer (some ⟨w.heap.size + 1 + 1 + 1 + 1, 0, none⟩)]] 130)
def startsK (w : World) : Zone := fun b => b < w.heap.size ∨ b = w.heap.size + 1 ∨ b = w.heap.size + 1 + 1 + 1 + 1
theorem starts_start {w : World} {fc : Array Value} {x : FactD} {Z : Zone} (hz : ∀ b, Z b → b < w.heap.size) :
  StC (startsW w fc x) (w.heap.size + 1) (w.heap.size + 1 + 1 + 1) (w.heap.size + 1 + 1 + 1 + 1) (w.heap.size + 1 + 1) (startsK w) x Z ∧ StO (startsW w fc x) (w.heap.size + 1 + 1 + 1) (w.heap.size + 1 + 1) (startsK w) [x.lo] ∧ Below w.heap.size w (startsW w fc x) := by
 have hb : Below w.heap.size w (startsW w fc x) := (((((Below.refl _ _).alloc (Nat.le_refl _) _).alloc (by simp) _).alloc (by simp; omega) _).alloc (by simp; omega) _).alloc (by simp; omega) _
 have hs : (startsW w fc x).heap.size = w.heap.size + 1 + 1 + 1 + 1 + 1 := by simp [startsW]
 refine ⟨⟨?_, ?_, fun b hb => ?_, ?_, by omega, fun b hb => ?_⟩, ⟨.slice (some ⟨w.heap.size + 1 + 1, 0, none⟩) 1 1, ?_, ?_, fun k hk => ?_⟩, hb⟩
 ·have := (((Blk.new (w.alloc (.cells fc 24)) 82 #[.string x.name, .int .i64 x.kind, .int .i64 x.lo, .int .i64 x.hi]).alloc (.cells #[.int .i64 x.lo] 3)).alloc (.cells #[.slice (some ⟨w.heap.size + 1 + 1, 0, none⟩) 1 1] 28)).alloc
   (.cells #[.func (.func 91) #[] #[.pointer (some ⟨w.heap.size + 1, 0, none⟩), .pointer (some ⟨w.heap.size + 1 + 1 + 1, 0, none⟩), .pointer (some ⟨w.heap.size + 1 + 1 + 1 + 1, 0, none⟩)]] 130)
  simp only [World.size_alloc] at this
  exact this
 ·exact one_new' _ _ _ (by simp)
 ·rcases hb with h | rfl | rfl
  ·exact Or.inl (hz b h)
  ·exact Or.inr (Or.inl rfl)
  ·exact Or.inr (Or.inr rfl)
 ·unfold startsK; omega
 ·unfold startsK at hb; omega
 ·exact (one_new' _ _ _ (by simp)).alloc _
 ·have h := Blk.new ((w.alloc (.cells fc 24)).alloc (.cells #[.string x.name, .int .i64 x.kind, .int .i64 x.lo, .int .i64 x.hi] 82)) 3 #[.int .i64 x.lo]
  simp only [World.size_alloc] at h
  have h2 := (h.alloc (.cells #[.slice (some ⟨w.heap.size + 1 + 1, 0, none⟩) 1 1] 28)).alloc
   (.cells #[.func (.func 91) #[] #[.pointer (some ⟨w.heap.size + 1, 0, none⟩), .pointer (some ⟨w.heap.size + 1 + 1 + 1, 0, none⟩), .pointer (some ⟨w.heap.size + 1 + 1 + 1 + 1, 0, none⟩)]] 130)
  exact ⟨rfl, Or.inr ⟨w.heap.size + 1 + 1, 1, _, rfl, Nat.le_refl _, h2, Nat.le_refl _, by decide, rfl, rfl⟩⟩
 ·have : w.heap.size + 1 + 1 = k := Option.some.inj hk
  unfold startsK; omega
set_option maxRecDepth 100000 in
set_option maxHeartbeats 4000000 in
theorem starts_any (Z : Zone) (f : Fm) (x : FactD) (cs : List Value) (w : World) (hf : FmR Z w f cs) (hz : ∀ b, Z b → b < w.heap.size) (hs : fsize f ≤ 1000000) (hbd : ∀ n ∈ testN x.name f, 0 ≤ n ∧ n ≤ 1000000) (hfit : x.fit) (hx : x.lo ≤ x.hi) :
  Calls Tryz.prog 44 #[.agg cs.toArray, .agg #[.string x.name, .int .i64 x.kind, .int .i64 x.lo, .int .i64 x.hi]] w fun e w' =>
   ∃ v, e = .returned v ∧ w'.ownsRow w.heap.size 3 1 v (startsS f x).length ((startsS f x).map (.int .i64)) ∧ Below w.heap.size w w' := by
 have eg1 := Tryz.egStarts1
 have eg2 := Tryz.egStarts2
 obtain ⟨A, cap, rfl⟩ := FmR.form hf
 have HF := hid hf
 have HX := hid (And.intro hfit (And.intro hx (And.intro hs hbd)))
 clear hf hfit hx hs hbd
 go_enter Tryz.func44, Tryz.ntmps44
 have HS := hid (starts_start (w := w) (fc := #[.int .i64 f.op, .string f.name, .int .i64 f.cmp, .int .i64 f.num, .slice A f.kids.length cap]) (x := x) hz)
 go_wp2_with fail
 refine (starts1_any _ _ _ _ (startsK w) x Z (fsize f) f (Nat.le_refl _) _ [x.lo] _ (FmR.keep (.of_below (HS.out.2.2)) _ _ HF.out) (by have := HX.out.2.2.1; simp; omega) HX.out.2.2.2 HS.out.1 HS.out.2.1).mono ?_
 rintro e w1 ⟨rfl, hO1, hk1⟩
 have hlen : ([x.lo] ++ prs (testN x.name f)).length ≤ 4000000 := by
  have h1 := testN_len x.name f
  have := HX.out.2.2.1
  rw [List.length_append]; simp; omega
 obtain ⟨vo, ho1, hown1, hne1⟩ := hO1
 have hpos : ([x.lo] ++ prs (testN x.name f)).length = (prs (testN x.name f)).length + 1 := by simp
 have hown1' := hown1
 rw [hpos] at hown1'
 obtain ⟨g, c1, hv⟩ := own_form hown1'
 rw [← hpos] at hv
 subst hv
 have hg := hne1 g rfl
 have hC1 := HS.out.1.keep hk1
 have hb1 := keeps_below ((below_keeps HS.out.2.2).trans (hk1.mono fun b _ hb => Or.inl hb)) (Nat.le_refl _)
 have HLIB := hid (starts_lib (f := f) HX.out.2.1 (fun n => decide (n < x.lo) || decide (x.hi < n)) (fun n => by simp))
 have HQ := hid (show [x.lo] ++ prs (testN x.name f) = x.lo :: (testN x.name f).flatMap fun n => [n, n + 1] from rfl)
 rw [← HQ.out] at HLIB
 clear hown1' hpos
 generalize [x.lo] ++ prs (testN x.name f) = zs at *
 have H1 := hid (And.intro ho1 (And.intro hown1 (And.intro hC1.x (And.intro hg hb1))))
 have o1 := ho1.cell
 have o2 := ho1.lt
 have hc5 := sort_own hown1 (by omega)
 have HC5 := hid hc5
 clear ho1 hown1 hC1 hg hb1 hc5 HQ hne1 hk1
 go_wp2_with fail
 refine HC5.out.mono ?_
 rintro e w2 ⟨rfl, hown2, hk2⟩
 have hgO : w.heap.size + 1 + 1 + 1 ≠ g := fun e => H1.out.2.2.2.1.2 e.symm
 have hgX : w.heap.size + 1 ≠ g := fun e => H1.out.2.2.2.1.1 (Or.inr (Or.inl e.symm))
 have ho2 := H1.out.1.keep hk2 hgO
 have hx2 := H1.out.2.2.1.keep hk2 hgX
 have hgw : w.heap.size ≤ g := Nat.le_of_not_lt fun h => H1.out.2.2.2.1.1 (Or.inl h)
 have hbel2 : Below w.heap.size w w2 := below_keeps_ne H1.out.2.2.2.2 hk2 hgw H1.out.2.2.2.2.size
 clear o1 o2 HC5
 have o1 := ho2.cell
 have o2 := ho2.lt
 have HD := hid (delete_own (X := w.heap.size + 1) hown2 hx2 hgX)
 have H2 := hid (And.intro ho2 hbel2)
 have HG := hid (And.intro hgO hgw)
 clear hgO hgX ho2 hx2 hgw hbel2 hown2 hk2
 go_wp2_with fail
 refine HD.out.mono ?_
 rintro e w3 ⟨ys, hys, rfl, hown3, hk3⟩
 have ho3 := H2.out.1.keep hk3 HG.out.1
 have hbel3 : Below w.heap.size w w3 := below_keeps_ne H2.out.2 hk3 HG.out.2 H2.out.2.size
 clear o1 o2 HD
 have o1 := ho3.cell
 have o2 := ho3.lt
 have o3 := ho3.free
 have hown4 := own_keep hown3 ((Keeps.refl (fun b => b ≠ w.heap.size + 1 + 1 + 1) _).setCell (p := ⟨w.heap.size + 1 + 1 + 1, 0, none⟩) (fun _ h => h rfl) (.slice (some ⟨g, 0, none⟩) ys.length c1)) (fun k hk => by
  have : g = k := Option.some.inj hk
  have := HG.out.1
  omega)
 have HC := hid (compact_own hown4)
 have HB3 := hid (hbel3.setCell (p := ⟨w.heap.size + 1 + 1 + 1, 0, none⟩) (by show w.heap.size ≤ w.heap.size + 1 + 1 + 1; omega) (.slice (some ⟨g, 0, none⟩) ys.length c1))
 have HO := hid (ho3.set_ (.slice (some ⟨g, 0, none⟩) ys.length c1))
 rw [← hys] at HLIB
 clear ho3 hbel3 hown3 hk3 hys hown4
 go_upto_region 7 with fail
 generalize (w3.setCell ⟨w.heap.size + 1 + 1 + 1, 0, none⟩ (.slice (some ⟨g, 0, none⟩) ys.length c1)) = w4 at *
 clear o1 o2 o3
 have o1 := HO.out.cell
 have o2 := HO.out.lt
 go_wp2_with fail
 refine HC.out.mono ?_
 rintro e w5 ⟨zs', hzs, rfl, hown5, hk5⟩
 have hz5 : zs' = startsS f x := hzs.trans HLIB.out
 have HP := hid (show w5.ownsRow w.heap.size 3 1 (.slice (some ⟨g, 0, none⟩) zs'.length c1) zs'.length (zs'.map (.int .i64)) ∧ Below w.heap.size w w5 from ⟨own_mono hown5 (by omega), below_keeps_ne HB3.out hk5 HG.out.2 HB3.out.size⟩)
 rw [hz5] at HP
 clear hown5 hk5 hzs o1 o2 HC HO
 have hz6 := hid hz5
 clear hz5
 go_wp2
 refine bodyPost_ret (v := .slice (some ⟨g, 0, none⟩) zs'.length c1) (by simp [results, Tryz.results44, go_sem]) rfl ⟨_, rfl, ?_, HP.out.2⟩
 rw [hz6.out]
 exact HP.out.1
end Go.Proofs.YtcigjmlileckhaaGreatDoor
/- Walk of diagram.tested. -/
namespace Go.Proofs.YtcigjmlileckhaaGreatDoor
open Go.RowKit
theorem Tryz.egTested : ∀ args w, (callFunc 38 args).run Tryz.prog w = .ok (.enter 38 args) w := enters_of Tryz.func38 (by kernel_rfl) rfl
theorem MapIs.alloc {κ : Type} [DecidableEq κ] {enc : κ → Value} {w : World} {b : Nat} {kv : List (κ × Value)} (h : MapIs enc w b kv) (o : Obj) : MapIs enc (w.alloc o) b kv := h.of_block (Below.heap_alloc _ _ _ h.lt)
def kvNames (kv : List (ByteArray × Value)) (l : List ByteArray) : List (ByteArray × Value) := l.foldl (fun kv n => kvSet kv n (.bool true)) kv
theorem kvNames_app (kv : List (ByteArray × Value)) (l m : List ByteArray) : kvNames kv (l ++ m) = kvNames (kvNames kv l) m := List.foldl_append
theorem namesFs_take : ∀ (l : List Fm) (k : Nat) (hk : k < l.length), namesFs (l.take (k + 1)) = namesFs (l.take k) ++ namesF l[k]
 | a :: r, 0, _ => by simp [namesFs]
 | a :: r, k + 1, hk => by
  have := namesFs_take r k (by simpa using hk)
  simp only [List.take_succ_cons, namesFs, List.getElem_cons_succ]
  rw [this, List.append_assoc]
set_option maxRecDepth 100000 in
set_option maxHeartbeats 4000000 in
theorem tested_any (mb : Nat) (Z : Zone) (hZ : ¬ Z mb) : ∀ (m : Nat) (f : Fm), fsize f ≤ m → ∀ (cs : List Value) (kv : List (ByteArray × Value)) (w : World), FmR Z w f cs → fsize f ≤ 4000000 → MapIs encS w mb kv →
  Calls Tryz.prog 38 #[.agg cs.toArray, .map (some mb)] w fun e w' =>
   e = .returned (.map (some mb)) ∧ MapIs encS w' mb (kvNames kv (namesF f)) ∧ Keeps (fun b => b ≠ mb) w w' := by
 intro m
 induction m with
 | zero => intro f hm; have := fsize_pos f; omega
 | succ m ih =>
 intro f hm cs kv w hf hlen hM
 have eg := Tryz.egTested
 have IH := hid ih
 clear ih
 obtain ⟨op, nm, cm, nu, kids⟩ := f
 unfold FmR at hf
 obtain ⟨_, _, _, _, A, cap, rfl, hcap, _, hkb, hks⟩ := hf
 have HS := hid (FmsR.seq hks)
 clear hks
 have hfs := fsize_eq (.mk op nm cm nu kids)
 simp only [Fm.kids] at hfs
 have hkl : kids.length ≤ 4000000 := by have h1 := length_le_fsizes kids; omega
 have HL := hid (And.intro hm (And.intro hlen hfs))
 have HT := hid (show namesF (.mk op nm cm nu kids) = (if op = 3 then [nm] else []) ++ namesFs kids from by rw [namesF])
 have HM := hid (hM.alloc (.cells #[.int .i64 op, .string nm, .int .i64 cm, .int .i64 nu, .slice A kids.length cap] 24))
 have hml := hM.lt
 clear hm hlen hfs hM
 by_cases h3 : op = 3
 ·subst h3
  rw [if_pos rfl] at HT
  go_enter Tryz.func38, Tryz.ntmps38
  go_upto_region 3 with (at_mapUpdate; refine wpList_mapStore rfl (.tmp 10) (.tmp 12) _ rfl (keyOk_string (P := Tryz.prog) (k := 9) Tryz.underlying9) (e := 4) Tryz.underlying62 rfl HM.out nm rfl ?_; intro W hm1 hk1 hsz1 hce1 hfr1)
  have HX5 := hid (show MapIs encS W mb (kvNames kv [nm]) from hm1)
  have HKW := hid (((Keeps.refl (fun b => b ≠ mb) w).alloc (.cells #[.int .i64 3, .string nm, .int .i64 cm, .int .i64 nu, .slice A kids.length cap] 24)).trans hk1)
  have c4 : W.cell? ⟨w.heap.size, 4, none⟩ = some (.slice A kids.length cap) := ((Blk.new w 24 #[.int .i64 3, .string nm, .int .i64 cm, .int .i64 nu, .slice A kids.length cap]).keep hk1 (by show w.heap.size ≠ mb; omega)).cell 4
  clear hm1 hk1 hsz1 hce1 hfr1
  generalize [nm] = fst at *
  have c4l := lt_of_cell c4
  go_wp2
  go_loopw [16] (fun i wr => ∃ k : Nat, k ≤ kids.length ∧ i = .int .i64 k ∧ MapIs encS wr mb (kvNames kv (fst ++ namesFs (kids.take k))) ∧ Keeps (fun b => b ≠ mb) w wr) (fun i _ => kids.length - (intOf i).toNat)
  case atStart => exact ⟨0, Nat.zero_le _, rfl, by simpa [namesFs] using HX5.out, HKW.out⟩
  case round =>
   clear c4 c4l
   obtain ⟨k, hk, rfl, hO, hkp⟩ := hrel
   by_cases hlt : k < kids.length
   ·obtain ⟨b, off, cs, rfl, hz, hcs, hfk⟩ := HS.out.at_ hlt
    have hkz : Keeps Z w wr := hkp.mono (fun b _ hb e => hZ (e ▸ hb))
    have hfk' := FmR.keep hkz _ _ hfk
    have HF := hid hfk'
    obtain ⟨A', cap', rfl⟩ := FmR.form hfk
    have hbnd : fsize kids[k] ≤ 4000000 := by
     have := fsize_lt hlt
     have := HL.out
     omega
    have hle := fsize_lt hlt
    have hm2 := HL.out.1
    have hfs := HL.out.2.2
    clear hfk hfk'
    obtain ⟨c0, c1, c2, c3, c4⟩ := five_cells (fun j u hu => hkz.cell (p := ⟨b, off + k * 5 + j, none⟩) hz (hcs j u hu))
    clear hcs
    have cl := lt_of_cell c0
    have HCALL := hid (fun o => IH.out kids[k] (by omega) _ _ (wr.alloc o) (FmR.keep ((Keeps.refl Z wr).alloc o) _ _ HF.out) hbnd (hO.alloc o))
    have HTK := hid (show kvNames kv (fst ++ namesFs (kids.take (k + 1))) = kvNames (kvNames kv (fst ++ namesFs (kids.take k))) (namesF kids[k]) from by rw [namesFs_take _ _ hlt, ← List.append_assoc, kvNames_app])
    have HKP := hid hkp
    clear hO hkp hkz hbnd hle hm2 hfs
    generalize kids[k] = g at *
    go_wp2_with fail
    refine (HCALL.out _).mono ?_
    rintro e w1 ⟨rfl, hO1, hk1⟩
    have H9 := hid (And.intro hO1 (HKP.out.trans (((Keeps.refl _ _).alloc _).trans hk1)))
    clear hO1 hk1
    go_wp2
    go_roundw
    case rel => exact ⟨k + 1, by omega, by go_num, by rw [HTK.out]; exact H9.out.1, H9.out.2⟩
    case measure => simp [intOf]; omega
   ·obtain rfl : k = kids.length := by omega
    rw [List.take_length] at hO
    have HO9 := hid hO
    have HKP := hid hkp
    clear hO hkp
    go_wp2
    refine bodyPost_ret (v := .map (some mb)) (by simp [results, Tryz.results38, go_sem]) rfl ⟨rfl, ?_, HKP.out⟩
    rw [HT.out]
    exact HO9.out
 ·rw [if_neg h3] at HT
  have HX5 := hid (show MapIs encS (w.alloc (.cells #[.int .i64 op, .string nm, .int .i64 cm, .int .i64 nu, .slice A kids.length cap] 24)) mb (kvNames kv []) from HM.out)
  have HKW := hid ((Keeps.refl (fun b => b ≠ mb) w).alloc (.cells #[.int .i64 op, .string nm, .int .i64 cm, .int .i64 nu, .slice A kids.length cap] 24))
  generalize ([] : List ByteArray) = fst at *
  go_enter Tryz.func38, Tryz.ntmps38
  go_upto_region 3 with fail
  have c4 : (w.alloc (.cells #[.int .i64 op, .string nm, .int .i64 cm, .int .i64 nu, .slice A kids.length cap] 24)).cell? ⟨w.heap.size, 4, none⟩ = some (.slice A kids.length cap) := (Blk.new w 24 #[.int .i64 op, .string nm, .int .i64 cm, .int .i64 nu, .slice A kids.length cap]).cell 4
  clear HM
  generalize (w.alloc (.cells #[.int .i64 op, .string nm, .int .i64 cm, .int .i64 nu, .slice A kids.length cap] 24)) = W at *
  have c4l := lt_of_cell c4
  go_wp2
  go_loopw [16] (fun i wr => ∃ k : Nat, k ≤ kids.length ∧ i = .int .i64 k ∧ MapIs encS wr mb (kvNames kv (fst ++ namesFs (kids.take k))) ∧ Keeps (fun b => b ≠ mb) w wr) (fun i _ => kids.length - (intOf i).toNat)
  case atStart => exact ⟨0, Nat.zero_le _, rfl, by simpa [namesFs] using HX5.out, HKW.out⟩
  case round =>
   clear c4 c4l
   obtain ⟨k, hk, rfl, hO, hkp⟩ := hrel
   by_cases hlt : k < kids.length
   ·obtain ⟨b, off, cs, rfl, hz, hcs, hfk⟩ := HS.out.at_ hlt
    have hkz : Keeps Z w wr := hkp.mono (fun b _ hb e => hZ (e ▸ hb))
    have hfk' := FmR.keep hkz _ _ hfk
    have HF := hid hfk'
    obtain ⟨A', cap', rfl⟩ := FmR.form hfk
    have hbnd : fsize kids[k] ≤ 4000000 := by
     have := fsize_lt hlt
     have := HL.out
     omega
    have hle := fsize_lt hlt
    have hm2 := HL.out.1
    have hfs := HL.out.2.2
    clear hfk hfk'
    obtain ⟨c0, c1, c2, c3, c4⟩ := five_cells (fun j u hu => hkz.cell (p := ⟨b, off + k * 5 + j, none⟩) hz (hcs j u hu))
    clear hcs
    have cl := lt_of_cell c0
    have HCALL := hid (fun o => IH.out kids[k] (by omega) _ _ (wr.alloc o) (FmR.keep ((Keeps.refl Z wr).alloc o) _ _ HF.out) hbnd (hO.alloc o))
    have HTK := hid (show kvNames kv (fst ++ namesFs (kids.take (k + 1))) = kvNames (kvNames kv (fst ++ namesFs (kids.take k))) (namesF kids[k]) from by rw [namesFs_take _ _ hlt, ← List.append_assoc, kvNames_app])
    have HKP := hid hkp
    clear hO hkp hkz hbnd hle hm2 hfs
    generalize kids[k] = g at *
    go_wp2_with fail
    refine (HCALL.out _).mono ?_
    rintro e w1 ⟨rfl, hO1, hk1⟩
    have H9 := hid (And.intro hO1 (HKP.out.trans (((Keeps.refl _ _).alloc _).trans hk1)))
    clear hO1 hk1
    go_wp2
    go_roundw
    case rel => exact ⟨k + 1, by omega, by go_num, by rw [HTK.out]; exact H9.out.1, H9.out.2⟩
    case measure => simp [intOf]; omega
   ·obtain rfl : k = kids.length := by omega
    rw [List.take_length] at hO
    have HO9 := hid hO
    have HKP := hid hkp
    clear hO hkp
    go_wp2
    refine bodyPost_ret (v := .map (some mb)) (by simp [results, Tryz.results38, go_sem]) rfl ⟨rfl, ?_, HKP.out⟩
    rw [HT.out]
    exact HO9.out
end Go.Proofs.YtcigjmlileckhaaGreatDoor
