/- And as a function of plain data: what it makes, when it errs, that the order of both makes no difference. No program in sight. Maps whose keys are pairs of numbers. Over any program. -/
import Derived.Test.YtcigjmlileckhaaGreatDoorM31
import Derived.Test.YtcigjmlileckhaaGreatDoorM6
import Derived.Test.YtcigjmlileckhaaGreatDoorM2
import Derived.ChangeKeysEq
import Derived.DeepKeys3
/- And as a function of plain data: what it makes, when it errs, that the order of both makes no difference. No program in sight. -/
namespace Go.Proofs.YtcigjmlileckhaaGreatDoor
structure WStA (st : ASt) : Prop where
 tab : WInv st.all
 done : ∀ p ∈ st.done, Rng st.all p.2
theorem WStA.new : WStA ⟨[], []⟩ := ⟨WInv.nil, by simp⟩
theorem kids_wA {f : Int → ASt → Int × ASt} {B : Nat} (hpre : ∀ v st, ∃ t, (f v st).2.all = st.all ++ t) (hf : ∀ v st, WStA st → WStA (f v st).2 ∧ Rng (f v st).2.all (f v st).1 ∧ inn (f v st).2.all ≤ max (inn st.all) B) : ∀ (l : List Int) (st : ASt), WStA st →
  WStA (kidsA f l st).2 ∧ (∀ k ∈ (kidsA f l st).1, Rng (kidsA f l st).2.all k) ∧ inn (kidsA f l st).2.all ≤ max (inn st.all) B
 | [], st, h => ⟨h, by simp [kidsA], Nat.le_max_left _ _⟩
 | v :: l, st, h => by
  obtain ⟨h1, h2, h3⟩ := hf v st h
  obtain ⟨k1, k2, k3⟩ := kids_wA hpre hf l _ h1
  refine ⟨k1, fun k hk => ?_, ?_⟩
  ·rcases List.mem_cons.1 hk with rfl | hk
   ·exact h2.pre (kidsA_pre hpre l _)
   ·exact k2 k hk
  ·unfold kidsA; simp only; omega
section both
variable {ds : List FactD} {a b : List NodeD}
theorem both_w (ha : Good ds a) (hb : Good ds b) : ∀ (k : Nat) (x y : Int) (st : ASt), Rng a x → Rng b y → ds.length - (min (askS ds (nAt a x)) (askS ds (nAt b y))).toNat < k → WStA st →
  WStA (bothS ds a b k x y st).2 ∧ Rng (bothS ds a b k x y st).2.all (bothS ds a b k x y st).1 ∧ inn (bothS ds a b k x y st).2.all ≤ max (inn st.all) (4000 + (ds.length - (min (askS ds (nAt a x)) (askS ds (nAt b y))).toNat))
 | 0, _, _, _, _, _, h, _ => by omega
 | k + 1, x, y, st, hx, hy, hk, h => by
  have ax := ask_rng ha hx
  have ay := ask_rng hb hy
  unfold bothS
  cases hkv : kvI st.done (x, y) with
  | some r => exact ⟨h, h.done _ (kvI_mem hkv), Nat.le_max_left _ _⟩
  | none =>
   simp only
   by_cases hend : min (askS ds (nAt a x)) (askS ds (nAt b y)) = ds.length ∨ 4000 < st.all.length
   ·simp only [if_pos hend]
    obtain ⟨h1, h2, h3⟩ := node_w h.tab (n := ⟨(nAt a x).leaf && (nAt b y).leaf, 0, [], []⟩) (fun _ => rfl)
    exact ⟨⟨h1, fun p hp => (h.done p hp).pre (node_pre _ _)⟩, h2, by simp only [if_true] at h3; omega⟩
   ·simp only [if_neg hend]
    have hi : min (askS ds (nAt a x)) (askS ds (nAt b y)) < ds.length := by omega
    have hin : inn st.all ≤ 4000 := by
     have h1 : inn st.all ≤ st.all.length := List.countP_le_length
     omega
    obtain ⟨k1, k2, k3⟩ := kids_wA (f := fun v st => bothS ds a b k (stepS a x (min (askS ds (nAt a x)) (askS ds (nAt b y))) v) (stepS b y (min (askS ds (nAt a x)) (askS ds (nAt b y))) v) st) (B := 4000 + (ds.length - (min (askS ds (nAt a x)) (askS ds (nAt b y))).toNat) - 1)
     (fun v st => both_pre ds a b k _ _ st) (fun v st hs => by
      obtain ⟨sx, gx⟩ := ask_step ha (v := v) hx (Int.min_le_left _ _) hi
      obtain ⟨sy, gy⟩ := ask_step hb (v := v) hy (Int.min_le_right _ _) hi
      have bx := ask_rng ha sx
      have by' := ask_rng hb sy
      obtain ⟨a1, a2, a3⟩ := both_w ha hb k _ _ st sx sy (by omega) hs
      exact ⟨a1, a2, by omega⟩) (mixS ds (nAt a x) (nAt b y)) st h
    obtain ⟨i1, i2, i3⟩ := inner_w k1.tab (i := min (askS ds (nAt a x)) (askS ds (nAt b y))) (ss := mixS ds (nAt a x) (nAt b y)) k2 (kidsA_ne (by simp [mixS]))
    refine ⟨⟨i1, fun p hp => ?_⟩, i2, ?_⟩
    ·rcases kvISet_mem hp with hp | hp
     ·exact (k1.done p hp).pre (inner_pre _ _ _ _)
     ·subst hp; exact i2
    ·omega
/-- What And returns. -/
def andS (ds : List FactD) (a b : List NodeD) : List NodeD × Int :=
 if validS ds a = true ∧ validS ds b = true then
  let r := bothS ds a b (ds.length + 1) 0 0 ⟨[], []⟩
  if 4000 < r.2.all.length then ([], 2) else if 4000 < (orderS ds r.2.all r.1).length then ([], 2) else (canonS ds r.2.all r.1, 0)
 else ([], 1)
theorem AInv.new {P : List (Int × Int)} : AInv ds a b P ⟨[], []⟩ := ⟨Good.nil ds, by simp, fun j hj => by have := hj.1; have := hj.2; simp at *; omega⟩
def pairsA (n m : Nat) : List (Int × Int) := (List.range n).flatMap fun (i : Nat) => (List.range m).map fun (j : Nat) => ((i : Int), (j : Int))
theorem pairsA_mem {n m : Nat} {p : Int × Int} : p ∈ pairsA n m ↔ (0 ≤ p.1 ∧ p.1 < n) ∧ 0 ≤ p.2 ∧ p.2 < m := by
 unfold pairsA
 simp only [List.mem_flatMap, List.mem_map, List.mem_range]
 constructor
 ·rintro ⟨i, hi, j, hj, rfl⟩
  exact ⟨⟨by simp, by simpa using hi⟩, by simp, by simpa using hj⟩
 ·rintro ⟨⟨h1, h2⟩, h3, h4⟩
  exact ⟨p.1.toNat, by omega, p.2.toNat, by omega, Prod.ext (by simp only; omega) (by simp only; omega)⟩
theorem pairsA_len (n m : Nat) : (pairsA n m).length = n * m := by
 unfold pairsA
 induction n with
 | zero => simp
 | succ n ih => rw [List.range_succ, List.flatMap_append, List.length_append, ih, Nat.add_mul]; simp
/-- A step stays in the table, whatever is asked. -/
theorem step_rng (hg : Good ds a) {x i v : Int} (hx : Rng a x) : Rng a (stepS a x i v) := by
 unfold stepS
 split
 ·rename_i h
  have I := hg.inner hx h.1
  exact I.rng _ (I.kid_rng v)
 ·exact hx
theorem closed_all (ha : Good ds a) (hb : Good ds b) : Closed ds a b (pairsA a.length b.length) := fun p hp => by
 obtain ⟨h1, h2⟩ := pairsA_mem.1 hp
 exact ⟨h1, h2, fun v => pairsA_mem.2 ⟨step_rng ha h1, step_rng hb h2⟩⟩
theorem and_meas (_ha : IsValid ds a) (_hb : IsValid ds b) : ds.length - (min (askS ds (nAt a 0)) (askS ds (nAt b 0))).toNat < ds.length + 1 := by omega
theorem and_ok {g : List NodeD} (h : andS ds a b = (g, 0)) : IsValid ds a ∧ IsValid ds b ∧ IsValid ds g ∧ ∀ c, Fit ds c → S ds g 0 c = (S ds a 0 c && S ds b 0 c) := by
 unfold andS at h
 split at h
 ·rename_i hv
  have ha := validS_iff.1 hv.1
  have hb := validS_iff.1 hv.2
  have hl := lohi_of ha.dom
  simp only at h
  split at h
  ·injection h with _ h; exact absurd h (by decide)
  ·rename_i h1
   split at h
   ·injection h with _ h; exact absurd h (by decide)
   ·rename_i h2
    injection h with h _
    obtain ⟨A, F⟩ := both_spec hl ha.good hb.good (closed_all ha.good hb.good) (ds.length + 1) 0 0 ⟨[], []⟩ (pairsA_mem.2 ⟨ha.rng, hb.rng⟩) (and_meas ha hb) AInv.new (Or.inr (by omega))
    subst h
    refine ⟨ha, hb, canon_valid ha.dom A.good F.rng (by unfold canonS; rw [List.length_map]; omega), fun c hc => ?_⟩
    rw [canon_S A.good F.rng]
    exact F.says c hc
 ·injection h with _ h; exact absurd h (by decide)
/-- With few pairs there is no error. -/
theorem and_few (ha : IsValid ds a) (hb : IsValid ds b) {P : List (Int × Int)} (hP : Closed ds a b P) (h0 : ((0 : Int), (0 : Int)) ∈ P) (hlen : P.length ≤ 4000) : (andS ds a b).2 = 0 := by
 unfold andS
 rw [if_pos ⟨validS_iff.2 ha, validS_iff.2 hb⟩]
 have hl := lohi_of ha.dom
 obtain ⟨A, F⟩ := both_spec hl ha.good hb.good hP (ds.length + 1) 0 0 ⟨[], []⟩ h0 (and_meas ha hb) AInv.new (Or.inl hlen)
 have h1 := A.length_le hl
 simp only
 rw [if_neg (by omega), if_neg (by have := (order_spec A.good F.rng).length_le; omega)]
theorem and_err (ha : IsValid ds a) (hb : IsValid ds b) (h : (andS ds a b).2 ≠ 0) : (andS ds a b).1 = [] ∧ (andS ds a b).2 = 2 ∧ 4000 < a.length * b.length := by
 have hn : 4000 < a.length * b.length := by
  rcases Nat.lt_or_ge 4000 (a.length * b.length) with h' | h'
  ·exact h'
  ·exact absurd (and_few ha hb (closed_all ha.good hb.good) (pairsA_mem.2 ⟨ha.rng, hb.rng⟩) (by rw [pairsA_len]; exact h')) h
 unfold andS at h ⊢
 rw [if_pos ⟨validS_iff.2 ha, validS_iff.2 hb⟩] at h ⊢
 simp only at h ⊢
 split
 ·exact ⟨rfl, rfl, hn⟩
 ·rename_i h1
  rw [if_neg h1] at h
  split
  ·exact ⟨rfl, rfl, hn⟩
  ·rename_i h2
   rw [if_neg h2] at h
   exact absurd rfl h
end both
end Go.Proofs.YtcigjmlileckhaaGreatDoor
/- Maps whose keys are pairs of numbers. Over any program. -/
namespace Go.Proofs.YtcigjmlileckhaaGreatDoor
open Go.RowKit
section pair
variable {P : Program} {k e : TypeId}
theorem run_equal_pair (hk : P.underlying k = some (.array 2 e)) (he : P.underlying e = some (.int .i64)) {i : TypeInfo} (hi : P.info? e = some i) (hc : P.cellsOf e = 1) (w : World) (x y : Int × Int) :
  (Op.equal k (encP x) (encP y)).run P w = .ok (decide (x = y)) w := by
 have hp : P.plainKey e = true := by simp [Program.plainKey, he]
 have h0 : ∀ (d : Nat) (a b : Int), (Op.equalIn (d + 1) e (.int .i64 a) (.int .i64 b)).run P w = .ok (a == b) w := fun d a b => by
  simp [Op.equalIn, run_underlying he]
 have h1 : ∀ (a b : Int), (Op.equalIn 9999 e (.int .i64 a) (.int .i64 b)).run P w = .ok (a == b) w := h0 9998
 have p0 : ∀ (a b : Int), (part e #[.int .i64 a, .int .i64 b] 0).run P w = .ok (.int .i64 a) w := fun a b => run_part_plain w hp rfl
 have p1 : ∀ (a b : Int), (part e #[.int .i64 a, .int .i64 b] 1).run P w = .ok (.int .i64 b) w := fun a b => run_part_plain w hp rfl
 unfold Op.equal encP
 rw [show Op.maxDepth = 9999 + 1 from rfl, run_equalIn_array w 9999 _ _ hk hi, hc, show List.range 2 = [0, 1] from rfl]
 simp only [Op.eqItems, Sem.run_bind, Nat.zero_mul, Nat.one_mul, p0, Result.andThen_ok, h1]
 by_cases a : x.1 = y.1 <;> by_cases b : x.2 = y.2 <;> simp [a, b, Prod.ext_iff, p1, h1]
theorem keyOk_pair (hk : P.underlying k = some (.array 2 e)) (he : P.underlying e = some (.int .i64)) {i : TypeInfo} (hi : P.info? e = some i) (hc : P.cellsOf e = 1)
  (hchk : ∀ (w : World) (em : Bool) (x : Int × Int), (Instr.checkKey em 10000 k (encP x)).run P w = .ok () w) : KeyOk P k encP where
 check := hchk
 find w x es kv h := by
  have ask : ∀ (es : List MapEntry) (kv : List ((Int × Int) × Value)) (j : Nat), es.map (fun e => (e.key, e.val)) = kv.map (fun p => (encP p.1, p.2)) → (Instr.findAsking k (encP x) es j).run P w = .ok (kvFind kv x j) w := by
   intro es
   induction es with
   | nil => intro kv j h; cases kv with
    | nil => simp [Instr.findAsking, kvFind]
    | cons p kv => simp at h
   | cons e' es ih => intro kv j h; cases kv with
    | nil => simp at h
    | cons p kv =>
     simp only [List.map_cons, List.cons.injEq, Prod.mk.injEq] at h
     obtain ⟨⟨h1, h2⟩, h3⟩ := h
     have h4 := run_equal_pair hk he hi hc w x p.1
     unfold Instr.findAsking kvFind
     rw [h1]
     simp only [Sem.run_bind, h4, Result.andThen_ok]
     by_cases hx : x = p.1
     ·simp [hx, h2]
     ·simp [hx, ih kv (j + 1) h3]
  cases es with
  | nil =>
   cases kv with
   | nil => simp [Instr.findKey, run_underlying hk, Instr.findNow, kvFind]
   | cons p kv => simp at h
  | cons e' es =>
   have h0 := h
   cases kv with
   | nil => simp at h
   | cons p kv =>
    simp only [List.map_cons, List.cons.injEq, Prod.mk.injEq] at h
    have hn : Instr.findNow (.array 2 e) (encP x) (e' :: es) 0 = none := by
     unfold Instr.findNow
     rw [h.1.1]
     simp [Instr.sameNow]
    simp only [Instr.findKey, Sem.run_bind, run_underlying hk, Result.andThen_ok, hn]
    exact ask _ _ 0 h0
 stays w x := by simp [Instr.keyThatStays, encP, Instr.sameBits]
end pair
/-- The table of pairs that are done. -/
def kvA (d : List ((Int × Int) × Int)) : List ((Int × Int) × Value) := d.map fun p => (p.1, .int .i64 p.2)
theorem kvA_get : ∀ (d : List ((Int × Int) × Int)) (k : Int × Int), kvGet (kvA d) k = (kvI d k).map (.int .i64)
 | [], _ => rfl
 | p :: r, k => by
  have ih := kvA_get r k
  unfold kvA at ih ⊢
  rw [List.map_cons, kvGet, kvI]
  split
  ·rfl
  ·exact ih
theorem kvA_set : ∀ (d : List ((Int × Int) × Int)) (k : Int × Int) (v : Int), kvSet (kvA d) k (.int .i64 v) = kvA (kvISet d k v)
 | [], _, _ => rfl
 | p :: r, k, v => by
  have ih := kvA_set r k v
  unfold kvA at ih ⊢
  rw [List.map_cons, kvSet, kvISet]
  split
  ·rfl
  ·rw [List.map_cons, ← ih]
end Go.Proofs.YtcigjmlileckhaaGreatDoor
