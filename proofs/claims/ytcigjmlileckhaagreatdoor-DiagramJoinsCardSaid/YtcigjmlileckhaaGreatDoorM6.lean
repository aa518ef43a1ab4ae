/- Plain: the diagram for which two diagrams hold. No program in sight. Plain: valid diagrams; what one says of a case; its least case; its opposite. No program in sight. -/
import Derived.Test.YtcigjmlileckhaaGreatDoorM2
/- Plain: the diagram for which two diagrams hold. No program in sight. -/
namespace Go.Proofs.YtcigjmlileckhaaGreatDoor
open Go.RowKit
def insA : List Int → Int → List Int
 | [], n => [n]
 | a :: r, n => if n < a then n :: a :: r else if n = a then a :: r else a :: insA r n
def ascOf (l : List Int) : List Int := l.foldl insA []
theorem insA_mem (l : List Int) (n v : Int) : v ∈ insA l n ↔ v = n ∨ v ∈ l := by
 induction l with
 | nil => simp [insA]
 | cons a r ih =>
  unfold insA
  split
  ·simp
  ·split
   ·rename_i h; subst h; simp
   ·simp only [List.mem_cons, ih]
    constructor
    ·rintro (h | h | h) <;> simp [h]
    ·rintro (h | h | h) <;> simp [h]
theorem insA_asc : ∀ {l : List Int} {lo hi n : Int}, ascFrom lo hi l → lo < n → n ≤ hi → ascFrom lo hi (insA l n)
 | [], _, _, _, _, h1, h2 => ⟨h1, h2, trivial⟩
 | a :: r, lo, hi, n, h, h1, h2 => by
  unfold insA
  split
  ·rename_i ha; exact ⟨h1, h2, ha, h.2.1, h.2.2⟩
  ·split
   ·exact h
   ·exact ⟨h.1, h.2.1, insA_asc h.2.2 (by omega) h2⟩
theorem foldl_insA_mem (l : List Int) : ∀ (m : List Int) (v : Int), v ∈ l.foldl insA m ↔ v ∈ m ∨ v ∈ l := by
 induction l with
 | nil => intro m v; simp
 | cons a r ih =>
  intro m v
  rw [List.foldl_cons, ih, insA_mem]
  simp only [List.mem_cons]
  constructor
  ·rintro ((h | h) | h)
   ·exact Or.inr (Or.inl h)
   ·exact Or.inl h
   ·exact Or.inr (Or.inr h)
  ·rintro (h | h | h)
   ·exact Or.inl (Or.inr h)
   ·exact Or.inl (Or.inl h)
   ·exact Or.inr h
theorem foldl_insA_asc {lo hi : Int} : ∀ (l m : List Int), ascFrom lo hi m → (∀ v ∈ l, lo < v ∧ v ≤ hi) → ascFrom lo hi (l.foldl insA m)
 | [], _, h, _ => h
 | a :: r, m, h, hl => foldl_insA_asc r _ (insA_asc h (hl a (by simp)).1 (hl a (by simp)).2) fun v hv => hl v (List.mem_cons_of_mem _ hv)
theorem ascOf_mem (l : List Int) (v : Int) : v ∈ ascOf l ↔ v ∈ l := by unfold ascOf; rw [foldl_insA_mem]; simp
theorem ascOf_asc {lo hi : Int} {l : List Int} (h : ∀ v ∈ l, lo < v ∧ v ≤ hi) : ascFrom lo hi (ascOf l) := foldl_insA_asc l [] trivial h
/-- The start of the interval in which a value lies. -/
theorem nx_start_le : ∀ {l : List Int} {lo hi v : Int}, ascFrom lo hi l → lo ≤ v → startAt lo l (nx l v) ≤ v
 | [], _, _, _, _, h => by simpa [nx, startAt] using h
 | c :: r, lo, hi, v, h, hv => by
  unfold nx
  split
  ·simpa [startAt] using hv
  ·have := nx_start_le (l := r) (lo := c) (v := v) h.2.2 (by omega)
   unfold startAt at this ⊢
   simp only [Nat.succ_ne_zero, if_false, Nat.add_sub_cancel]
   split at this
   ·rename_i h0; rw [h0]; simpa using this
   ·rename_i h0
    obtain ⟨q, hq⟩ : ∃ q, nx r v = q + 1 := ⟨nx r v - 1, by omega⟩
    rw [hq] at this ⊢
    simpa using this
/-- No start lies between a value and the start of its interval. -/
theorem nx_start_gap : ∀ {l : List Int} {lo hi v x : Int}, ascFrom lo hi l → x ∈ l → startAt lo l (nx l v) < x → v < x
 | [], _, _, _, _, _, h, _ => absurd h (by simp)
 | c :: r, lo, hi, v, x, h, hx, hs => by
  unfold nx at hs
  by_cases hv : v < c
  ·rcases List.mem_cons.1 hx with rfl | hx
   ·exact hv
   ·have := (asc_mem h.2.2 x hx).1; omega
  ·rw [if_neg hv] at hs
   have hs' : startAt c r (nx r v) < x := by
    unfold startAt at hs ⊢
    simp only [Nat.succ_ne_zero, if_false, Nat.add_sub_cancel] at hs
    split
    ·rename_i h0; rw [h0] at hs; simpa using hs
    ·rename_i h0
     obtain ⟨q, hq⟩ : ∃ q, nx r v = q + 1 := ⟨nx r v - 1, by omega⟩
     rw [hq] at hs ⊢
     simpa using hs
   rcases List.mem_cons.1 hx with rfl | hx
   ·have := nx_start_le (l := r) (lo := x) (v := v) h.2.2 (by omega)
    unfold startAt at hs'
    split at hs'
    ·omega
    ·exfalso
     have hlt : nx r v - 1 < r.length := by have := nx_le r v; omega
     rw [List.getD_eq_getElem?_getD, List.getElem?_eq_getElem hlt] at hs'
     have := (asc_mem h.2.2 _ (List.getElem_mem hlt)).1
     simp at hs'
     omega
   ·exact nx_start_gap h.2.2 hx hs'
/-- Cuts that are among the starts take the same kid for a value and for the start of its interval. -/
theorem nx_same {m : List Int} {v s : Int} (h1 : s ≤ v) (h2 : ∀ x ∈ m, s < x → v < x) : nx m s = nx m v := by
 induction m with
 | nil => rfl
 | cons c r ih =>
  unfold nx
  have hc := h2 c (by simp)
  by_cases h : s < c
  ·rw [if_pos h, if_pos (hc h)]
  ·rw [if_neg h, if_neg (by omega), ih fun x hx => h2 x (List.mem_cons_of_mem _ hx)]
def kvI {κ : Type} [DecidableEq κ] : List (κ × Int) → κ → Option Int
 | [], _ => none
 | p :: r, x => if x = p.1 then some p.2 else kvI r x
def kvISet {κ : Type} [DecidableEq κ] : List (κ × Int) → κ → Int → List (κ × Int)
 | [], x, v => [(x, v)]
 | p :: r, x, v => if x = p.1 then (p.1, v) :: r else p :: kvISet r x v
theorem kvI_mem {κ : Type} [DecidableEq κ] {x : κ} {v : Int} : ∀ {l : List (κ × Int)}, kvI l x = some v → (x, v) ∈ l
 | [], h => by simp [kvI] at h
 | p :: r, h => by
  unfold kvI at h
  split at h
  ·rename_i e; injection h with h; subst h; subst e; simp
  ·exact List.mem_cons_of_mem _ (kvI_mem h)
theorem kvISet_mem {κ : Type} [DecidableEq κ] {x : κ} {v : Int} {p : κ × Int} : ∀ {l : List (κ × Int)}, p ∈ kvISet l x v → p ∈ l ∨ p = (x, v)
 | [], h => by simp [kvISet] at h; exact Or.inr h
 | q :: r, h => by
  unfold kvISet at h
  split at h
  ·rename_i e
   subst e
   rcases List.mem_cons.1 h with h | h
   ·exact Or.inr h
   ·exact Or.inl (List.mem_cons_of_mem _ h)
  ·rcases List.mem_cons.1 h with h | h
   ·exact Or.inl (by simp [h])
   ·rcases kvISet_mem h with h | h
    ·exact Or.inl (List.mem_cons_of_mem _ h)
    ·exact Or.inr h
def askS (ds : List FactD) (n : NodeD) : Int := if n.kids = [] then ds.length else n.fact
def stepS (g : List NodeD) (at_ i v : Int) : Int := if (nAt g at_).kids ≠ [] ∧ (nAt g at_).fact = i then (nAt g at_).kids.getD (nx (nAt g at_).cuts v) 0 else at_
structure ASt where
 all : List NodeD
 done : List ((Int × Int) × Int)
def mixS (ds : List FactD) (p q : NodeD) : List Int :=
 (fAt ds (min (askS ds p) (askS ds q))).lo :: ascOf ((if askS ds p = min (askS ds p) (askS ds q) then p.cuts else []) ++ (if askS ds q = min (askS ds p) (askS ds q) then q.cuts else []))
/-- The kids for some values, one behind the other. -/
def kidsA {σ : Type} (f : Int → σ → Int × σ) : List Int → σ → List Int × σ
 | [], st => ([], st)
 | v :: l, st => ((f v st).1 :: (kidsA f l (f v st).2).1, (kidsA f l (f v st).2).2)
def bothS (ds : List FactD) (a b : List NodeD) : Nat → Int → Int → ASt → Int × ASt
 | 0, _, _, st => (0, st)
 | k + 1, x, y, st =>
  match kvI st.done (x, y) with
  | some r => (r, st)
  | none =>
   if min (askS ds (nAt a x)) (askS ds (nAt b y)) = ds.length ∨ 4000 < st.all.length then
    ((nodeS st.all ⟨(nAt a x).leaf && (nAt b y).leaf, 0, [], []⟩).1, ⟨(nodeS st.all ⟨(nAt a x).leaf && (nAt b y).leaf, 0, [], []⟩).2, st.done⟩)
   else
    let i := min (askS ds (nAt a x)) (askS ds (nAt b y))
    let r := kidsA (fun v st => bothS ds a b k (stepS a x i v) (stepS b y i v) st) (mixS ds (nAt a x) (nAt b y)) st
    let o := innerS r.2.all i (mixS ds (nAt a x) (nAt b y)) r.1
    (o.1, ⟨o.2, kvISet r.2.done (x, y) o.1⟩)
theorem node_pre (all : List NodeD) (n : NodeD) : ∃ t, (nodeS all n).2 = all ++ t := by
 unfold nodeS; split
 ·exact ⟨[], by simp⟩
 ·exact ⟨[n], rfl⟩
theorem inner_pre (all : List NodeD) (i : Int) (s k : List Int) : ∃ t, (innerS all i s k).2 = all ++ t := by
 unfold innerS; split
 ·exact ⟨[], by simp⟩
 ·exact node_pre _ _
theorem pre_trans {g g' g'' : List NodeD} (h : ∃ t, g' = g ++ t) (k : ∃ t, g'' = g' ++ t) : ∃ t, g'' = g ++ t := by
 obtain ⟨t, rfl⟩ := h; obtain ⟨u, rfl⟩ := k; exact ⟨t ++ u, by simp⟩
theorem kidsA_pre {f : Int → ASt → Int × ASt} (h : ∀ v st, ∃ t, (f v st).2.all = st.all ++ t) : ∀ (l : List Int) (st : ASt), ∃ t, (kidsA f l st).2.all = st.all ++ t
 | [], st => ⟨[], by simp [kidsA]⟩
 | v :: l, st => pre_trans (h v st) (kidsA_pre h l _)
theorem both_pre (ds : List FactD) (a b : List NodeD) : ∀ (k : Nat) (x y : Int) (st : ASt), ∃ t, (bothS ds a b k x y st).2.all = st.all ++ t
 | 0, _, _, st => ⟨[], by simp [bothS]⟩
 | k + 1, x, y, st => by
  unfold bothS
  split
  ·exact ⟨[], by simp⟩
  ·split
   ·exact node_pre _ _
   ·exact pre_trans (kidsA_pre (fun v st => both_pre ds a b k _ _ st) _ st) (inner_pre _ _ _ _)
theorem pre_le {g g' : List NodeD} (h : ∃ t, g' = g ++ t) : g.length ≤ g'.length := by obtain ⟨t, rfl⟩ := h; simp
theorem subset_length : ∀ {α : Type} [DecidableEq α] (l m : List α), l.Nodup → (∀ x ∈ l, x ∈ m) → l.length ≤ m.length
 | _, _, [], _, _, _ => Nat.zero_le _
 | _, _, a :: l, m, hn, h => by
  have hn' := List.nodup_cons.1 hn
  have h1 := subset_length l (m.erase a) hn'.2 fun x hx => by
   have hne : x ≠ a := fun e => hn'.1 (e ▸ hx)
   exact (List.mem_erase_of_ne hne).2 (h x (List.mem_cons_of_mem _ hx))
  have h2 := List.length_erase_of_mem (h a (by simp))
  have h3 := List.length_pos_of_mem (h a (by simp))
  simp only [List.length_cons]
  omega
section both
variable {ds : List FactD} {a b : List NodeD}
/-- Pairs of nodes that a walk over both diagrams meets. -/
def Closed (ds : List FactD) (a b : List NodeD) (P : List (Int × Int)) : Prop :=
 ∀ p ∈ P, Rng a p.1 ∧ Rng b p.2 ∧ ∀ v, (stepS a p.1 (min (askS ds (nAt a p.1)) (askS ds (nAt b p.2))) v, stepS b p.2 (min (askS ds (nAt a p.1)) (askS ds (nAt b p.2))) v) ∈ P
/-- What the made node for a pair is. -/
structure For (ds : List FactD) (a b all : List NodeD) (x y r : Int) : Prop where
 rng : Rng all r
 says : ∀ c, Fit ds c → S ds all r c = (S ds a x c && S ds b y c)
 low : (nAt all r).kids ≠ [] → min (askS ds (nAt a x)) (askS ds (nAt b y)) ≤ (nAt all r).fact
theorem For.app {all all' : List NodeD} {x y r : Int} (h : For ds a b all x y r) (hg : Good ds all) (hg' : Good ds all') (hp : ∃ t, all' = all ++ t) : For ds a b all' x y r := by
 obtain ⟨t, rfl⟩ := hp
 exact ⟨h.rng.app t, fun c hc => by rw [S_app' hg hg' h.rng]; exact h.says c hc, by rw [nAt_app h.rng]; exact h.low⟩
structure AInv (ds : List FactD) (a b : List NodeD) (P : List (Int × Int)) (st : ASt) : Prop where
 good : Good ds st.all
 done : ∀ p ∈ st.done, For ds a b st.all p.1.1 p.1.2 p.2
 from_ : ∀ j, Rng st.all j → ∃ p ∈ P, ∀ c, Fit ds c → S ds st.all j c = (S ds a p.1 c && S ds b p.2 c)
theorem AInv.length_le {P : List (Int × Int)} {st : ASt} (hl : LoHi ds) (h : AInv ds a b P st) : st.all.length ≤ P.length := by
 have hc : ∀ j : Nat, ∃ p : Int × Int, j < st.all.length → p ∈ P ∧ ∀ c, Fit ds c → S ds st.all j c = (S ds a p.1 c && S ds b p.2 c) := fun j => by
  by_cases hj : j < st.all.length
  ·obtain ⟨p, hp, e⟩ := h.from_ j ⟨by omega, by omega⟩
   exact ⟨p, fun _ => ⟨hp, e⟩⟩
  ·exact ⟨(0, 0), fun h => absurd h hj⟩
 obtain ⟨f, hf⟩ := Classical.axiomOfChoice hc
 have := subset_length ((List.range st.all.length).map f) P (by
  show List.Pairwise (· ≠ ·) _
  rw [List.pairwise_map]
  refine List.Pairwise.imp_of_mem (R := (· ≠ ·)) (fun {i j} hi hj hne e => hne ?_) List.nodup_range
  rw [List.mem_range] at hi hj
  have := h.good.uniq hl (a := (i : Int)) (b := (j : Int)) ⟨by omega, by omega⟩ ⟨by omega, by omega⟩ fun c hc => by
   rw [(hf i hi).2 c hc, (hf j hj).2 c hc, e]
  omega) (fun p hp => by
  obtain ⟨j, hj, rfl⟩ := List.mem_map.1 hp
  exact (hf j (List.mem_range.1 hj)).1)
 simpa using this
theorem ask_step (hg : Good ds a) {x i v : Int} (hx : Rng a x) (hi : i ≤ askS ds (nAt a x)) (hid : i < ds.length) : Rng a (stepS a x i v) ∧ i < askS ds (nAt a (stepS a x i v)) := by
 unfold stepS
 by_cases h : (nAt a x).kids ≠ [] ∧ (nAt a x).fact = i
 ·rw [if_pos h]
  have I := hg.inner hx h.1
  have hm := I.kid_rng v
  refine ⟨I.rng _ hm, ?_⟩
  unfold askS
  split
  ·exact hid
  ·rename_i hk; have := I.up _ hm hk; rw [← h.2]; exact this
 ·rw [if_neg h]
  refine ⟨hx, ?_⟩
  unfold askS at hi ⊢
  split
  ·exact hid
  ·rename_i hk
   rw [if_neg hk] at hi
   have : (nAt a x).fact ≠ i := fun e => h ⟨hk, e⟩
   omega
theorem S_step (hg : Good ds a) {x i : Int} {s : Int} (hx : Rng a x) (c : List Int) (_h0 : 0 ≤ i)
  (hs : (nAt a x).kids ≠ [] → (nAt a x).fact = i → nx (nAt a x).cuts s = nx (nAt a x).cuts (c.getD i.toNat 0)) : S ds a (stepS a x i s) c = S ds a x c := by
 unfold stepS
 by_cases h : (nAt a x).kids ≠ [] ∧ (nAt a x).fact = i
 ·rw [if_pos h, hg.S_inner hx h.1, h.2, hs h.1 h.2]
 ·rw [if_neg h]
theorem ask_rng (hg : Good ds a) {x : Int} (hx : Rng a x) : 0 ≤ askS ds (nAt a x) ∧ askS ds (nAt a x) ≤ ds.length := by
 unfold askS
 split
 ·omega
 ·rename_i hk; have I := hg.inner hx hk; have := I.f0; have := I.f1; omega
theorem kidsA_length {σ : Type} {f : Int → σ → Int × σ} : ∀ (l : List Int) (st : σ), (kidsA f l st).1.length = l.length
 | [], _ => rfl
 | v :: l, st => by simp [kidsA, kidsA_length l]
theorem both_spec (hl : LoHi ds) (ha : Good ds a) (hb : Good ds b) {P : List (Int × Int)} (hP : Closed ds a b P) : ∀ (k : Nat) (x y : Int) (st : ASt), (x, y) ∈ P →
  ds.length - (min (askS ds (nAt a x)) (askS ds (nAt b y))).toNat < k → AInv ds a b P st → (P.length ≤ 4000 ∨ (bothS ds a b k x y st).2.all.length ≤ 4000) →
  AInv ds a b P (bothS ds a b k x y st).2 ∧ For ds a b (bothS ds a b k x y st).2.all x y (bothS ds a b k x y st).1
 | 0, _, _, _, _, h, _, _ => by omega
 | k + 1, x, y, st, hxy, hk, hst, hsz => by
  have hpre := both_pre ds a b (k + 1) x y st
  have hle := pre_le hpre
  obtain ⟨hx, hy, hcl⟩ := hP _ hxy
  simp only at hx hy hcl
  have ax := ask_rng ha hx
  have ay := ask_rng hb hy
  have hns : st.all.length ≤ 4000 := by
   rcases hsz with h | h
   ·exact Nat.le_trans (hst.length_le hl) h
   ·exact Nat.le_trans hle h
  unfold bothS at hsz ⊢
  cases hkv : kvI st.done (x, y) with
  | some r =>
   simp only [hkv] at hsz ⊢
   exact ⟨hst, hst.done _ (kvI_mem hkv)⟩
  | none =>
   simp only [hkv] at hsz ⊢
   by_cases hend : min (askS ds (nAt a x)) (askS ds (nAt b y)) = ds.length ∨ 4000 < st.all.length
   ·simp only [if_pos hend] at hsz ⊢
    have hend' : min (askS ds (nAt a x)) (askS ds (nAt b y)) = ds.length := by
     rcases hend with h | h
     ·exact h
     ·omega
    have kx : (nAt a x).kids = [] := by
     by_cases h : (nAt a x).kids = []
     ·exact h
     ·have I := ha.inner hx h; have := I.f1; unfold askS at hend'; rw [if_neg h] at hend'; omega
    have ky : (nAt b y).kids = [] := by
     by_cases h : (nAt b y).kids = []
     ·exact h
     ·have I := hb.inner hy h; have := I.f1; unfold askS at hend'; rw [if_neg h] at hend'; omega
    obtain ⟨M, hat⟩ := node_made hst.good (n := ⟨(nAt a x).leaf && (nAt b y).leaf, 0, [], []⟩) (Or.inl ⟨rfl, rfl, rfl⟩)
    have hnew := node_pre st.all ⟨(nAt a x).leaf && (nAt b y).leaf, 0, [], []⟩
    have hlen : ∀ j, Rng (nodeS st.all ⟨(nAt a x).leaf && (nAt b y).leaf, 0, [], []⟩).2 j → Rng st.all j ∨ j = (nodeS st.all ⟨(nAt a x).leaf && (nAt b y).leaf, 0, [], []⟩).1 := by
     intro j hj
     unfold nodeS at hj ⊢
     split at hj
     ·exact Or.inl hj
     ·rename_i hm
      rw [if_neg hm]
      have h0 := hj.1
      have h1 := hj.2
      simp at h1
      by_cases e : j = (st.all.length : Nat)
      ·exact Or.inr e
      ·exact Or.inl ⟨h0, by omega⟩
    generalize nodeS st.all ⟨(nAt a x).leaf && (nAt b y).leaf, 0, [], []⟩ = r at *
    have hF : For ds a b r.2 x y r.1 := ⟨M.rng, fun c _ => by rw [M.good.S_leaf (by rw [hat]), hat, ha.S_leaf kx, hb.S_leaf ky], fun h => absurd (by rw [hat]) h⟩
    refine ⟨⟨M.good, fun p hp => (hst.done p hp).app hst.good M.good M.pre, fun j hj => ?_⟩, hF⟩
    rcases hlen j hj with h | h
    ·obtain ⟨p, hp, e⟩ := hst.from_ j h
     exact ⟨p, hp, fun c hc => by rw [M.S_old hst.good h]; exact e c hc⟩
    ·subst h; exact ⟨_, hxy, hF.says⟩
   ·simp only [if_neg hend] at hsz ⊢
    have hi : min (askS ds (nAt a x)) (askS ds (nAt b y)) < ds.length := by omega
    have hmix : ∃ rest, mixS ds (nAt a x) (nAt b y) = (fAt ds (min (askS ds (nAt a x)) (askS ds (nAt b y)))).lo :: rest ∧ ascFrom (fAt ds (min (askS ds (nAt a x)) (askS ds (nAt b y)))).lo (fAt ds (min (askS ds (nAt a x)) (askS ds (nAt b y)))).hi rest ∧
      ((nAt a x).kids ≠ [] → (nAt a x).fact = min (askS ds (nAt a x)) (askS ds (nAt b y)) → ∀ v ∈ (nAt a x).cuts, v ∈ rest) ∧ ((nAt b y).kids ≠ [] → (nAt b y).fact = min (askS ds (nAt a x)) (askS ds (nAt b y)) → ∀ v ∈ (nAt b y).cuts, v ∈ rest) := by
     refine ⟨_, rfl, ascOf_asc fun v hv => ?_, fun h1 h2 v hv => ?_, fun h1 h2 v hv => ?_⟩
     ·rcases List.mem_append.1 hv with hv | hv
      ·split at hv
       ·rename_i e
        rcases ha.proper _ (nAt_mem hx) with h | h
        ·rw [h.2.2] at hv; simp at hv
        ·have : askS ds (nAt a x) = (nAt a x).fact := by unfold askS; rw [if_neg h.ne]
         rw [← e, this]; exact asc_mem h.asc v hv
       ·simp at hv
      ·split at hv
       ·rename_i e
        rcases hb.proper _ (nAt_mem hy) with h | h
        ·rw [h.2.2] at hv; simp at hv
        ·have : askS ds (nAt b y) = (nAt b y).fact := by unfold askS; rw [if_neg h.ne]
         rw [← e, this]; exact asc_mem h.asc v hv
       ·simp at hv
     ·rw [ascOf_mem, List.mem_append]
      left
      rw [if_pos (by rw [← h2]; unfold askS; rw [if_neg h1])]; exact hv
     ·rw [ascOf_mem, List.mem_append]
      right
      rw [if_pos (by rw [← h2]; unfold askS; rw [if_neg h1])]; exact hv
    obtain ⟨rest, hmx, hasc, hca, hcb⟩ := hmix
    have hi0 : 0 ≤ min (askS ds (nAt a x)) (askS ds (nAt b y)) := by omega
    have hia : min (askS ds (nAt a x)) (askS ds (nAt b y)) ≤ askS ds (nAt a x) := by omega
    have hib : min (askS ds (nAt a x)) (askS ds (nAt b y)) ≤ askS ds (nAt b y) := by omega
    generalize hmi : min (askS ds (nAt a x)) (askS ds (nAt b y)) = i at *
    have hkid : ∀ (l : List Int) (st : ASt), AInv ds a b P st → (P.length ≤ 4000 ∨ (kidsA (fun v st => bothS ds a b k (stepS a x i v) (stepS b y i v) st) l st).2.all.length ≤ 4000) →
      AInv ds a b P (kidsA (fun v st => bothS ds a b k (stepS a x i v) (stepS b y i v) st) l st).2 ∧
      ∀ j, j < l.length → For ds a b (kidsA (fun v st => bothS ds a b k (stepS a x i v) (stepS b y i v) st) l st).2.all (stepS a x i (l.getD j 0)) (stepS b y i (l.getD j 0)) ((kidsA (fun v st => bothS ds a b k (stepS a x i v) (stepS b y i v) st) l st).1.getD j 0) := by
     intro l
     induction l with
     | nil => intro st hst _; exact ⟨hst, fun j hj => absurd hj (by simp)⟩
     | cons v l ih =>
      intro st hst hsz
      have sx := ask_step ha (v := v) hx hia hi
      have sy := ask_step hb (v := v) hy hib hi
      have hp1 := kidsA_pre (f := fun v st => bothS ds a b k (stepS a x i v) (stepS b y i v) st) (fun v st => both_pre ds a b k _ _ st) l (bothS ds a b k (stepS a x i v) (stepS b y i v) st).2
      have hle := pre_le hp1
      obtain ⟨A1, F1⟩ := both_spec hl ha hb hP k (stepS a x i v) (stepS b y i v) st (hcl v) (by omega) hst (hsz.imp id fun h => Nat.le_trans hle h)
      obtain ⟨A2, F2⟩ := ih _ A1 hsz
      refine ⟨A2, fun j hj => ?_⟩
      cases j with
      | zero => exact F1.app A1.good A2.good hp1
      | succ j => exact F2 j (by simpa using hj)
    have hp2 := inner_pre (kidsA (fun v st => bothS ds a b k (stepS a x i v) (stepS b y i v) st) (mixS ds (nAt a x) (nAt b y)) st).2.all i (mixS ds (nAt a x) (nAt b y)) (kidsA (fun v st => bothS ds a b k (stepS a x i v) (stepS b y i v) st) (mixS ds (nAt a x) (nAt b y)) st).1
    obtain ⟨A1, F1⟩ := hkid (mixS ds (nAt a x) (nAt b y)) st hst (hsz.imp id fun h => Nat.le_trans (pre_le hp2) h)
    have hlk := kidsA_length (f := fun v st => bothS ds a b k (stepS a x i v) (stepS b y i v) st) (mixS ds (nAt a x) (nAt b y)) st
    rw [hmx] at A1 F1 hlk ⊢
    generalize kidsA (fun v st => bothS ds a b k (stepS a x i v) (stepS b y i v) st) ((fAt ds i).lo :: rest) st = r at *
    obtain ⟨kids, st'⟩ := r
    simp only at A1 F1 hlk ⊢
    cases kids with
    | nil => simp at hlk
    | cons k0 ks =>
     have hlk' : rest.length = ks.length := by simpa using hlk.symm
     obtain ⟨n, hn⟩ := Int.eq_ofNat_of_zero_le hi0
     subst hn
     have hn : n < ds.length := by omega
     have hF1 : ∀ q ∈ k0 :: ks, ∃ j, j < ((fAt ds (n : Int)).lo :: rest).length ∧ q = (k0 :: ks).getD j 0 := fun q hq => by
      obtain ⟨j, hj, rfl⟩ := List.getElem_of_mem hq
      exact ⟨j, by simp only [List.length_cons] at hj ⊢; omega, by rw [List.getD_eq_getElem?_getD, List.getElem?_eq_getElem hj]; rfl⟩
     have hfa : fAt ds (n : Int) = ds.getD n noFact := by unfold fAt; rw [Int.toNat_natCast]
     obtain ⟨M, hS, hlow⟩ := inner_made A1.good hn hlk' (by rw [← hfa]; exact hasc) (fun q hq => by obtain ⟨j, hj, rfl⟩ := hF1 q hq; exact (F1 j hj).rng) (fun q hq hqk => by
      obtain ⟨j, hj, rfl⟩ := hF1 q hq
      have := (F1 j hj).low hqk
      have sx := ask_step ha (v := ((fAt ds (n : Int)).lo :: rest).getD j 0) hx hia hi
      have sy := ask_step hb (v := ((fAt ds (n : Int)).lo :: rest).getD j 0) hy hib hi
      omega)
     rw [hfa]
     have hlen : ∀ j, Rng (innerS st'.all n ((ds.getD n noFact).lo :: rest) (k0 :: ks)).2 j → Rng st'.all j ∨ j = (innerS st'.all n ((ds.getD n noFact).lo :: rest) (k0 :: ks)).1 := by
      intro j hj
      unfold innerS nodeS at hj ⊢
      split at hj
      ·exact Or.inl hj
      ·rename_i hm
       rw [if_neg hm]
       split at hj
       ·exact Or.inl hj
       ·rename_i hm2
        rw [if_neg hm2]
        have h0 := hj.1
        have h1 := hj.2
        simp at h1
        by_cases e : j = (st'.all.length : Nat)
        ·exact Or.inr e
        ·exact Or.inl ⟨h0, by omega⟩
     generalize innerS st'.all n ((ds.getD n noFact).lo :: rest) (k0 :: ks) = o at *
     have hF : For ds a b o.2 x y o.1 := by
      refine ⟨M.rng, fun c hc => ?_, fun h => ?_⟩
      ·rw [hS c]
       have hle := nx_le rest (c.getD n 0)
       rw [(F1 (nx rest (c.getD n 0)) (by simp only [List.length_cons]; omega)).says c hc]
       have hfit := hc.2 n hn
       have e : ((fAt ds (n : Int)).lo :: rest).getD (nx rest (c.getD n 0)) 0 = startAt (fAt ds (n : Int)).lo rest (nx rest (c.getD n 0)) := by
        unfold startAt
        split
        ·rename_i h0; rw [h0]; rfl
        ·rename_i h0
         obtain ⟨q, hq⟩ : ∃ q, nx rest (c.getD n 0) = q + 1 := ⟨nx rest (c.getD n 0) - 1, by omega⟩
         rw [hq]; simp
       have s1 := nx_start_le (v := c.getD n 0) hasc (by rw [hfa]; exact hfit.1)
       have s2 := fun x hx => nx_start_gap (v := c.getD n 0) (x := x) hasc hx
       rw [e]
       rw [S_step ha hx c (by omega) (fun h1 h2 => nx_same s1 fun z hz => s2 z (hca h1 h2 z hz)), S_step hb hy c (by omega) (fun h1 h2 => nx_same s1 fun z hz => s2 z (hcb h1 h2 z hz))]
      ·have := hlow h; omega
     refine ⟨⟨M.good, fun p hp => ?_, fun j hj => ?_⟩, hF⟩
     ·rcases kvISet_mem hp with hp | hp
      ·exact (A1.done p hp).app A1.good M.good M.pre
      ·subst hp; exact hF
     ·rcases hlen j hj with h | h
      ·obtain ⟨p, hp, e⟩ := A1.from_ j h
       exact ⟨p, hp, fun c hc => by rw [M.S_old A1.good h]; exact e c hc⟩
      ·subst h; exact ⟨_, hxy, hF.says⟩
end both
end Go.Proofs.YtcigjmlileckhaaGreatDoor
/- Plain: valid diagrams; what one says of a case; its least case; its opposite. No program in sight. -/
namespace Go.Proofs.YtcigjmlileckhaaGreatDoor
open Go.RowKit
def ascB (lo hi : Int) : List Int → Bool
 | [] => true
 | c :: r => decide (lo < c) && decide (c ≤ hi) && ascB c hi r
theorem ascB_iff : ∀ {l : List Int} {lo hi : Int}, ascB lo hi l = true ↔ ascFrom lo hi l
 | [], _, _ => by simp [ascB, ascFrom]
 | c :: r, lo, hi => by simp only [ascB, ascFrom, Bool.and_eq_true, decide_eq_true_eq, ascB_iff, and_assoc]
def kidsB (g : List NodeD) (f : Int) : List Int → Bool
 | [] => true
 | k :: r => (decide (0 ≤ k) && decide (k < g.length) && (decide ((nAt g k).kids = []) || decide (f < (nAt g k).fact))) && (match r with | [] => true | k' :: _ => decide (k ≠ k')) && kidsB g f r
/-- The program's form of a node. -/
def properB (ds : List FactD) (g : List NodeD) (n : NodeD) : Bool :=
 if n.kids = [] then decide (n.fact = 0) && decide (n.cuts = [])
 else !n.leaf && decide (0 ≤ n.fact) && decide (n.fact < ds.length) && decide (n.cuts ≠ []) && decide (n.kids.length = n.cuts.length + 1) && ascB (fAt ds n.fact).lo (fAt ds n.fact).hi n.cuts && kidsB g n.fact n.kids
theorem kidsB_iff {g : List NodeD} {f : Int} : ∀ {l : List Int}, kidsB g f l = true ↔ (∀ k ∈ l, Rng g k) ∧ (∀ k ∈ l, (nAt g k).kids ≠ [] → f < (nAt g k).fact) ∧ ∀ j, j + 1 < l.length → l.getD j 0 ≠ l.getD (j + 1) 0
 | [] => by simp [kidsB]
 | k :: r => by
  have ih := kidsB_iff (g := g) (f := f) (l := r)
  unfold kidsB
  simp only [Bool.and_eq_true, decide_eq_true_eq, Bool.or_eq_true, ih]
  constructor
  ·rintro ⟨⟨⟨⟨h0, h1⟩, h2⟩, h3⟩, h4, h5, h6⟩
   refine ⟨fun x hx => ?_, fun x hx hne => ?_, fun j hj => ?_⟩
   ·rcases List.mem_cons.1 hx with rfl | hx
    ·exact ⟨h0, h1⟩
    ·exact h4 x hx
   ·rcases List.mem_cons.1 hx with rfl | hx
    ·rcases h2 with h2 | h2
     ·exact absurd h2 hne
     ·exact h2
    ·exact h5 x hx hne
   ·cases j with
    | zero =>
     cases r with
     | nil => simp at hj
     | cons k' r => simpa using h3
    | succ j => simpa using h6 j (by simpa using hj)
  ·rintro ⟨h1, h2, h3⟩
   refine ⟨⟨⟨⟨(h1 k (by simp)).1, (h1 k (by simp)).2⟩, ?_⟩, ?_⟩, fun x hx => h1 x (by simp [hx]), fun x hx => h2 x (by simp [hx]), fun j hj => ?_⟩
   ·by_cases e : (nAt g k).kids = []
    ·exact Or.inl e
    ·exact Or.inr (h2 k (by simp) e)
   ·cases r with
    | nil => rfl
    | cons k' r => have := h3 0 (by simp); simpa using this
   ·have := h3 (j + 1) (by simpa using hj)
    simpa using this
theorem properB_iff {ds : List FactD} {g : List NodeD} {n : NodeD} : properB ds g n = true ↔ Proper ds g n := by
 unfold properB
 by_cases h : n.kids = []
 ·rw [if_pos h]
  simp only [Bool.and_eq_true, decide_eq_true_eq]
  exact ⟨fun e => Or.inl ⟨h, e.1, e.2⟩, fun e => by
   rcases e with e | e
   ·exact e.2
   ·exact absurd h e.ne⟩
 ·rw [if_neg h]
  simp only [Bool.and_eq_true, decide_eq_true_eq, Bool.not_eq_true', ascB_iff, kidsB_iff]
  constructor
  ·rintro ⟨⟨⟨⟨⟨⟨h1, h2⟩, h3⟩, h4⟩, h5⟩, h6⟩, h7, h8, h9⟩
   exact Or.inr ⟨h, h1, h2, h3, h4, h5, h6, h7, h8, h9⟩
  ·rintro (e | e)
   ·exact absurd e.1 h
   ·exact ⟨⟨⟨⟨⟨⟨e.leaf, e.f0⟩, e.f1⟩, e.cuts⟩, e.len⟩, e.asc⟩, e.rng, e.up, e.diff⟩
/-- The canonical diagrams. -/
def validS (ds : List FactD) (g : List NodeD) : Bool :=
 validDom ds && decide (g ≠ []) && decide (g.length ≤ 4000) && g.all (properB ds g) && decide g.Nodup && decide (canonS ds g 0 = g)
structure IsValid (ds : List FactD) (g : List NodeD) : Prop where
 dom : validDom ds = true
 ne : g ≠ []
 len : g.length ≤ 4000
 good : Good ds g
 canon : canonS ds g 0 = g
theorem validS_iff {ds : List FactD} {g : List NodeD} : validS ds g = true ↔ IsValid ds g := by
 unfold validS
 simp only [Bool.and_eq_true, decide_eq_true_eq, List.all_eq_true, properB_iff]
 constructor
 ·rintro ⟨⟨⟨⟨⟨h1, h2⟩, h3⟩, h4⟩, h5⟩, h6⟩; exact ⟨h1, h2, h3, ⟨h4, h5⟩, h6⟩
 ·rintro ⟨h1, h2, h3, ⟨h4, h5⟩, h6⟩; exact ⟨⟨⟨⟨⟨h1, h2⟩, h3⟩, h4⟩, h5⟩, h6⟩
theorem lohi_of {ds : List FactD} (h : validDom ds = true) : LoHi ds := fun j hj => by
 unfold validDom at h
 simp only [Bool.and_eq_true, List.all_eq_true] at h
 have := h.1.1 (ds.getD j noFact) (by rw [List.getD_eq_getElem?_getD, List.getElem?_eq_getElem hj]; exact List.getElem_mem hj)
 unfold factOk at this
 simp only [Bool.and_eq_true, Bool.or_eq_true, beq_iff_eq, decide_eq_true_eq] at this
 omega
theorem IsValid.rng {ds : List FactD} {g : List NodeD} (h : IsValid ds g) : Rng g 0 := ⟨Int.le_refl _, by have := List.length_pos_iff.2 h.ne; omega⟩
/-- Canonical diagrams that say the same are equal. -/
theorem IsValid.eq {ds : List FactD} {a b : List NodeD} (ha : IsValid ds a) (hb : IsValid ds b) (h : EqS ds a b 0 0) : a = b := by
 rw [← ha.canon, ← hb.canon]
 exact canon_eq (lohi_of ha.dom) ha.good hb.good ha.rng hb.rng h
theorem canon_valid {ds : List FactD} {g : List NodeD} {i : Int} (hd : validDom ds = true) (h : Good ds g) (hi : Rng g i) (hlen : (canonS ds g i).length ≤ 4000) : IsValid ds (canonS ds g i) :=
 ⟨hd, by intro e; have := (canon_rng h hi).2; rw [e] at this; simp at this, hlen, canon_good h hi, canon_again (lohi_of hd) h hi⟩
theorem fit_of {ds : List FactD} {c : List Int} (h : fits ds c = true) : Fit ds c := by
 unfold fits at h
 simp only [Bool.and_eq_true, decide_eq_true_eq, List.all_eq_true] at h
 refine ⟨h.1.2, fun j hj => ?_⟩
 have hc : j < c.length := by omega
 have := h.2 (ds[j], c[j]) (by
  have hz : (ds.zip c)[j]'(by simp; omega) = (ds[j], c[j]) := List.getElem_zip
  rw [← hz]; exact List.getElem_mem _)
 unfold inR at this
 simp only [Bool.and_eq_true, decide_eq_true_eq] at this
 simpa [List.getD_eq_getElem?_getD, List.getElem?_eq_getElem hj, List.getElem?_eq_getElem hc] using this
theorem fits_of {ds : List FactD} {c : List Int} (hd : validDom ds = true) (h : Fit ds c) : fits ds c = true :=
 fits_all hd h.1 fun j h1 h2 _ => by
  have := h.2 j h1
  unfold inR
  simp only [Bool.and_eq_true, decide_eq_true_eq]
  simpa [List.getD_eq_getElem?_getD, List.getElem?_eq_getElem h1, List.getElem?_eq_getElem h2] using this
/-- The program's index of the kid for a value. -/
def nxL (n : NodeD) (v : Int) : Int := if nx n.cuts v < n.cuts.length then (nx n.cuts v : Nat) else (n.kids.length : Int) - 1
theorem Inner.nxL {ds : List FactD} {g : List NodeD} {n : NodeD} (h : Inner ds g n) (v : Int) : nxL n v = (nx n.cuts v : Nat) := by
 unfold Go.Proofs.YtcigjmlileckhaaGreatDoor.nxL
 have := nx_le n.cuts v
 have := h.len
 split <;> omega
def holdsD (g : List NodeD) (c : List Int) : Nat → Int → Bool
 | 0, _ => false
 | k + 1, at_ =>
  if at_ < 0 ∨ (g.length : Int) ≤ at_ then false
  else if (nAt g at_).kids = [] then (nAt g at_).leaf
  else if (nAt g at_).fact < 0 ∨ (c.length : Int) ≤ (nAt g at_).fact then false
  else if ((nAt g at_).kids.length : Int) ≤ nxL (nAt g at_) (c.getD (nAt g at_).fact.toNat 0) then false
  else holdsD g c k ((nAt g at_).kids.getD (nxL (nAt g at_) (c.getD (nAt g at_).fact.toNat 0)).toNat 0)
theorem countP_lt {α : Type} {p q : α → Bool} (hpq : ∀ x, p x = true → q x = true) : ∀ {l : List α} {x : α}, x ∈ l → q x = true → p x = false → l.countP p + 1 ≤ l.countP q
 | a :: l, x, hx, hq, hp => by
  rw [List.countP_cons, List.countP_cons]
  have hle : l.countP p ≤ l.countP q := List.countP_mono_left fun x _ h => hpq x h
  rcases List.mem_cons.1 hx with rfl | hx
  ·rw [hq, hp]; simp; omega
  ·have := countP_lt hpq hx hq hp
   by_cases h : p a = true
   ·rw [h, hpq a h]; simp; omega
   ·rw [if_neg h]; omega
section holds
variable {ds : List FactD} {g : List NodeD}
def rankN (ds : List FactD) (n : NodeD) : Nat := if n.kids = [] then 0 else ds.length - n.fact.toNat
def cnt (ds : List FactD) (g : List NodeD) (r : Nat) : Nat := g.countP fun n => decide (rankN ds n ≤ r)
theorem cnt_lt {i k : Int} (hi : Rng g i) (h : rank ds g k < rank ds g i) : cnt ds g (rank ds g k) + 1 ≤ cnt ds g (rank ds g i) :=
 countP_lt (fun n hn => by simp only [decide_eq_true_eq] at hn ⊢; omega) (nAt_mem hi) (by simp [rank, rankN]) (by simp only [decide_eq_false_iff_not, Nat.not_le]; exact h)
theorem cnt_pos {i : Int} (hi : Rng g i) : 1 ≤ cnt ds g (rank ds g i) := by
 unfold cnt
 exact List.countP_pos_iff.2 ⟨_, nAt_mem hi, by simp [rank, rankN]⟩
theorem holdsD_S (h : Good ds g) {c : List Int} (hc : c.length = ds.length) : ∀ (k : Nat) (i : Int), Rng g i → cnt ds g (rank ds g i) ≤ k → holdsD g c k i = S ds g i c
 | 0, i, hi, hk => by have := cnt_pos (ds := ds) hi; omega
 | k + 1, i, hi, hk => by
  unfold holdsD
  have h0 := hi.1
  have h1 := hi.2
  rw [if_neg (by omega)]
  by_cases hkk : (nAt g i).kids = []
  ·rw [if_pos hkk, h.S_leaf hkk]
  ·have I := h.inner hi hkk
   have f0 := I.f0
   have f1 := I.f1
   rw [if_neg hkk, if_neg (by omega), I.nxL, Int.toNat_natCast]
   have hm := I.kid_rng (c.getD (nAt g i).fact.toNat 0)
   have hrk := h.rank_kid hi hm
   have hle := nx_le (nAt g i).cuts (c.getD (nAt g i).fact.toNat 0)
   have hlen := I.len
   rw [if_neg (by omega), h.S_inner hi hkk]
   have := cnt_lt (k := (nAt g i).kids.getD (nx (nAt g i).cuts (c.getD (nAt g i).fact.toNat 0)) 0) hi hrk.2
   exact holdsD_S h hc k _ hrk.1 (by omega)
theorem holdsD_all (h : Good ds g) {c : List Int} (hc : c.length = ds.length) (hr : Rng g 0) : holdsD g c g.length 0 = S ds g 0 c :=
 holdsD_S h hc _ _ hr (by unfold cnt; exact List.countP_le_length)
/-- May a node's kid lead to the true leaf? -/
def live (g : List NodeD) (k : Int) : Bool := decide ((nAt g k).kids ≠ []) || (nAt g k).leaf
def leastW (g : List NodeD) : Nat → Int → List Int → Int × List Int
 | 0, i, c => (i, c)
 | k + 1, i, c =>
  if (nAt g i).kids = [] then (i, c)
  else leastW g k ((nAt g i).kids.getD ((nAt g i).kids.findIdx (live g)) 0)
   (if 0 < (nAt g i).kids.findIdx (live g) then c.set (nAt g i).fact.toNat ((nAt g i).cuts.getD ((nAt g i).kids.findIdx (live g) - 1) 0) else c)
/-- The least case of a canonical diagram. -/
def leastS (ds : List FactD) (g : List NodeD) : Option (List Int) :=
 if validS ds g = true then (if (nAt g (leastW g (ds.length + 1) 0 (leastOf ds)).1).leaf = true then some (leastW g (ds.length + 1) 0 (leastOf ds)).2 else none) else none
theorem Good.some_live (_hl : LoHi ds) (h : Good ds g) {i : Int} (hi : Rng g i) (hk : (nAt g i).kids ≠ []) : (nAt g i).kids.findIdx (live g) < (nAt g i).kids.length := by
 have I := h.inner hi hk
 refine List.findIdx_lt_length_of_exists ?_
 have hlen := I.len
 have hc1 : 1 ≤ (nAt g i).cuts.length := by have := I.cuts; cases hc : (nAt g i).cuts with | nil => exact absurd hc this | cons => simp
 have m0 : (nAt g i).kids.getD 0 0 ∈ (nAt g i).kids := mem_getD (by omega)
 have m1 : (nAt g i).kids.getD 1 0 ∈ (nAt g i).kids := mem_getD (by omega)
 by_cases l0 : live g ((nAt g i).kids.getD 0 0) = true
 ·exact ⟨_, m0, l0⟩
 ·by_cases l1 : live g ((nAt g i).kids.getD 1 0) = true
  ·exact ⟨_, m1, l1⟩
  ·exfalso
   have hd := I.diff 0 (by omega)
   have dead : ∀ k, Rng g k → ¬ live g k = true → nAt g k = noNode := fun k hk hl => by
    unfold live at hl
    simp only [Bool.or_eq_true, decide_eq_true_eq, not_or, Decidable.not_not] at hl
    rcases h.proper _ (nAt_mem hk) with e | e
    ·exact NodeD.ext' (by rw [show noNode.leaf = false from rfl]; simpa using hl.2) e.2.1 e.2.2 e.1
    ·exact absurd hl.1 e.ne
   exact hd (nodup_at h.nodup (I.rng _ m0) (I.rng _ m1) (by rw [dead _ (I.rng _ m0) l0, dead _ (I.rng _ m1) l1]))
/-- A case is less than another one. -/
def lexLt (a b : List Int) : Prop := ∃ j, j < a.length ∧ j < b.length ∧ (∀ i, i < j → a.getD i 0 = b.getD i 0) ∧ a.getD j 0 < b.getD j 0
theorem dead_S (h : Good ds g) {i : Int} (hd : live g i = false) (c : List Int) : S ds g i c = false := by
 unfold live at hd
 simp only [Bool.or_eq_false_iff, decide_eq_false_iff_not, Decidable.not_not] at hd
 rw [h.S_leaf hd.1]; exact hd.2
theorem leastW_spec (hl : LoHi ds) (h : Good ds g) : ∀ (k : Nat) (i : Int) (c : List Int) (lo : Nat), Rng g i → rank ds g i < k → live g i = true → Fit ds c → ((nAt g i).kids ≠ [] → (lo : Int) ≤ (nAt g i).fact) →
  (∀ j, lo ≤ j → j < ds.length → c.getD j 0 = (ds.getD j noFact).lo) →
  (nAt g (leastW g k i c).1).leaf = true ∧ Fit ds (leastW g k i c).2 ∧ S ds g i (leastW g k i c).2 = true ∧ (∀ j, j < lo → (leastW g k i c).2.getD j 0 = c.getD j 0) ∧
  ((nAt g i).kids ≠ [] → ∀ j : Nat, (j : Int) < (nAt g i).fact → (leastW g k i c).2.getD j 0 = c.getD j 0) ∧
  ∀ c', Fit ds c' → (∀ j, j < lo → c'.getD j 0 = c.getD j 0) → S ds g i c' = true → ¬ lexLt c' (leastW g k i c).2
 | 0, _, _, _, _, hr, _, _, _, _ => by omega
 | k + 1, i, c, lo, hi, hr, hlv, hc, hlo, hcl => by
  unfold leastW
  by_cases hk : (nAt g i).kids = []
  ·rw [if_pos hk]
   have hlf : (nAt g i).leaf = true := by unfold live at hlv; simpa [hk] using hlv
   refine ⟨hlf, hc, by rw [h.S_leaf hk]; exact hlf, fun j _ => rfl, fun j hj => absurd hk j, fun c' hc' hag hs ⟨j, h1, h2, h3, h4⟩ => ?_⟩
   rcases Nat.lt_or_ge j lo with hj | hj
   ·have := hag j hj; simp only at h4; omega
   ·have hjd : j < ds.length := by rw [hc'.1] at h1; exact h1
    have := (hc'.2 j hjd).1
    have := hcl j hj hjd
    simp only at h4; omega
  ·rw [if_neg hk]
   have I := h.inner hi hk
   have hlo' := hlo hk
   have f0 := I.f0
   have f1 := I.f1
   have hfi := h.some_live hl hi hk
   have hflt : (nAt g i).fact.toNat < ds.length := by omega
   have hkm := mem_getD hfi
   have hkl : live g ((nAt g i).kids.getD ((nAt g i).kids.findIdx (live g)) 0) = true := by
    rw [List.getD_eq_getElem?_getD, List.getElem?_eq_getElem hfi]
    exact List.findIdx_getElem
   have hbefore : ∀ j, j < (nAt g i).kids.findIdx (live g) → live g ((nAt g i).kids.getD j 0) = false := fun j hj => by
    have hj' : j < (nAt g i).kids.length := by omega
    rw [List.getD_eq_getElem?_getD, List.getElem?_eq_getElem hj']
    have := List.not_of_lt_findIdx hj
    simpa using this
   have hlen := I.len
   generalize hx : (nAt g i).kids.findIdx (live g) = x at *
   have hrk := h.rank_kid hi hkm
   -- the case that goes on
   have hset : (if 0 < x then c.set (nAt g i).fact.toNat ((nAt g i).cuts.getD (x - 1) 0) else c) = c.set (nAt g i).fact.toNat (startAt (fAt ds (nAt g i).fact).lo (nAt g i).cuts x) := by
    unfold startAt
    by_cases h0 : x = 0
    ·rw [if_neg (by omega), if_pos h0]
     have e := hcl (nAt g i).fact.toNat (by omega) hflt
     have hlt : (nAt g i).fact.toNat < c.length := by rw [hc.1]; exact hflt
     apply list_ext_getD (by simp)
     intro j hj
     rw [getD_set]
     split
     ·rename_i hh; rw [← hh.1, e]; rfl
     ·rfl
    ·rw [if_pos (by omega), if_neg h0]
   rw [hset]
   have hst := h.start_fit hl hi hk (j := x) (by omega)
   have hc1 := hc.set_ (j := (nAt g i).fact.toNat) hst.1 hst.2
   have hup := I.up _ hkm
   generalize hq : startAt (fAt ds (nAt g i).fact).lo (nAt g i).cuts x = q at *
   have hnq : nx (nAt g i).cuts q = x := by rw [← hq]; exact nx_start I.asc (by omega)
   have hclen : (nAt g i).fact.toNat < c.length := by rw [hc.1]; exact hflt
   obtain ⟨a1, a2, a3, a4, a5, a6⟩ := leastW_spec hl h k ((nAt g i).kids.getD x 0) (c.set (nAt g i).fact.toNat q) ((nAt g i).fact.toNat + 1) hrk.1 (by omega) hkl hc1 (fun hkk => by have := hup hkk; omega) (fun j hj hjd => by
    rw [getD_set, if_neg (by omega)]
    exact hcl j (by omega) hjd)
   generalize leastW g k ((nAt g i).kids.getD x 0) (c.set (nAt g i).fact.toNat q) = r at *
   have hpf : r.2.getD (nAt g i).fact.toNat 0 = q := by
    rw [a4 _ (by omega), getD_set, if_pos ⟨rfl, hclen⟩]
   have hold : ∀ j, j < (nAt g i).fact.toNat → r.2.getD j 0 = c.getD j 0 := fun j hj => by
    rw [a4 j (by omega), getD_set, if_neg (by omega)]
   refine ⟨a1, a2, ?_, fun j hj => hold j (by omega), fun _ j hj => hold j (by omega), fun c' hc' hag hs ⟨j, h1, h2, h3, h4⟩ => ?_⟩
   ·rw [h.S_inner hi hk, hpf, hnq]; exact a3
   ·have hjd : j < ds.length := by rw [hc'.1] at h1; exact h1
    rcases Nat.lt_trichotomy j (nAt g i).fact.toNat with hj | hj | hj
    ·have e := hold j hj
     rcases Nat.lt_or_ge j lo with hjl | hjl
     ·have := hag j hjl; omega
     ·have := (hc'.2 j hjd).1
      have := hcl j hjl hjd
      omega
    ·subst hj
     rw [hpf] at h4
     rw [h.S_inner hi hk] at hs
     have hlt : nx (nAt g i).cuts (c'.getD (nAt g i).fact.toNat 0) < x := by
      rcases Nat.lt_or_ge (nx (nAt g i).cuts (c'.getD (nAt g i).fact.toNat 0)) x with h' | h'
      ·exact h'
      ·exfalso
       have hx0 : x ≠ 0 := fun e => by
        have := (hc'.2 _ hjd).1
        rw [e] at hq
        unfold startAt fAt at hq
        simp only [if_true] at hq
        omega
       have hmem : q ∈ (nAt g i).cuts := by
        rw [← hq]; unfold startAt; rw [if_neg hx0]; exact mem_getD (by omega)
       have s1 := nx_start_gap (v := c'.getD (nAt g i).fact.toNat 0) I.asc hmem
       have s2 := nx_start_le (v := c'.getD (nAt g i).fact.toNat 0) I.asc (hc'.2 _ hjd).1
       have s3 : startAt (fAt ds (nAt g i).fact).lo (nAt g i).cuts (nx (nAt g i).cuts (c'.getD (nAt g i).fact.toNat 0)) < q := by omega
       -- the start of a later interval is not less
       have mono : ∀ (l : List Int) (lo hi : Int) (a b : Nat), ascFrom lo hi l → a ≤ b → b ≤ l.length → startAt lo l a ≤ startAt lo l b := by
        intro l
        induction l with
        | nil =>
         intro lo hi a b _ hab hb
         simp at hb
         have : a = b := by omega
         subst this
         exact Int.le_refl _
        | cons y l ih =>
         intro lo hi a b ha hab hb
         cases a with
         | zero =>
          unfold startAt
          rw [if_pos rfl]
          split
          ·exact Int.le_refl _
          ·exact Int.le_of_lt (asc_mem ha _ (mem_getD (by omega))).1
         | succ a =>
          obtain ⟨b, rfl⟩ : ∃ b', b = b' + 1 := ⟨b - 1, by omega⟩
          have e : ∀ j, startAt lo (y :: l) (j + 1) = startAt y l j := fun j => by
           unfold startAt
           cases j with
           | zero => simp
           | succ j => simp
          rw [e, e]
          exact ih y hi a b ha.2.2 (by omega) (by simpa using hb)
       have := mono _ _ _ x _ I.asc h' (nx_le _ _)
       omega
     rw [dead_S h (hbefore _ hlt)] at hs
     exact absurd hs (by simp)
    ·have ef := h3 _ hj
     rw [hpf] at ef
     rw [h.S_inner hi hk, ef, hnq] at hs
     refine a6 c' hc' (fun j' hj' => ?_) hs ⟨j, h1, h2, h3, h4⟩
     rw [h3 j' (by omega), a4 j' hj']
theorem leastOf_get {ds : List FactD} (hd : validDom ds = true) (j : Nat) (hj : j < ds.length) : (leastOf ds).getD j 0 = (ds.getD j noFact).lo := by
 rw [leastOf_yes hd]
 simp [List.getD_eq_getElem?_getD, List.getElem?_eq_getElem hj]
/-- The least case fits, the diagram holds for it, and for no lesser one. -/
theorem leastS_some {p : List Int} (h : leastS ds g = some p) : IsValid ds g ∧ Fit ds p ∧ S ds g 0 p = true ∧ ∀ c, Fit ds c → S ds g 0 c = true → ¬ lexLt c p := by
 unfold leastS at h
 by_cases hv : validS ds g = true
 ·rw [if_pos hv] at h
  have V := validS_iff.1 hv
  have hl := lohi_of V.dom
  have hf : Fit ds (leastOf ds) := by rw [leastOf_yes V.dom]; exact hl.least
  by_cases hlv : live g 0 = true
  ·obtain ⟨a1, a2, a3, _, _, a6⟩ := leastW_spec hl V.good (ds.length + 1) 0 (leastOf ds) 0 V.rng (by have := rank_le (ds := ds) (g := g) 0; omega) hlv hf (fun hk => (V.good.inner V.rng hk).f0) (fun j _ hj => leastOf_get V.dom j hj)
   rw [if_pos a1] at h
   injection h with h
   subst h
   exact ⟨V, a2, a3, fun c hc hs => a6 c hc (fun j hj => absurd hj (by omega)) hs⟩
  ·exfalso
   unfold live at hlv
   simp only [Bool.or_eq_true, decide_eq_true_eq, not_or, Decidable.not_not] at hlv
   unfold leastW at h
   rw [if_pos hlv.1, if_neg hlv.2] at h
   cases h
 ·rw [if_neg hv] at h; cases h
/-- Without one, the diagram never holds: it is the false leaf. -/
theorem leastS_none (hv : IsValid ds g) (h : leastS ds g = none) : (∀ c, S ds g 0 c = false) ∧ live g 0 = false := by
 unfold leastS at h
 rw [if_pos (validS_iff.2 hv)] at h
 have hl := lohi_of hv.dom
 have hf : Fit ds (leastOf ds) := by rw [leastOf_yes hv.dom]; exact hl.least
 by_cases hlv : live g 0 = true
 ·exfalso
  obtain ⟨a1, _⟩ := leastW_spec hl hv.good (ds.length + 1) 0 (leastOf ds) 0 hv.rng (by have := rank_le (ds := ds) (g := g) 0; omega) hlv hf (fun hk => (hv.good.inner hv.rng hk).f0) (fun j _ hj => leastOf_get hv.dom j hj)
  rw [if_pos a1] at h; cases h
 ·have hlv' : live g 0 = false := by simpa using hlv
  exact ⟨fun c => dead_S hv.good hlv' c, hlv'⟩
theorem dead_root (hv : IsValid ds g) (h : live g 0 = false) : g = [noNode] := by
 have hb : IsValid ds [noNode] := by
  have hg : Good ds [noNode] := ⟨fun n hn => by simp at hn; subst hn; exact Or.inl ⟨rfl, rfl, rfl⟩, by simp⟩
  refine ⟨hv.dom, by simp, by simp, hg, ?_⟩
  unfold canonS orderS visitS
  simp [nAt, noNode, renum]
 refine hv.eq hb fun c _ => ?_
 rw [dead_S hv.good h, hb.good.S_leaf (by rfl)]; rfl
end holds
/-- The opposite. -/
def notN (n : NodeD) : NodeD := if n.kids = [] then ⟨!n.leaf, n.fact, n.cuts, n.kids⟩ else n
def notD (g : List NodeD) : List NodeD := g.map notN
theorem notN_kids (n : NodeD) : (notN n).kids = n.kids ∧ (notN n).cuts = n.cuts ∧ (notN n).fact = n.fact := by unfold notN; split <;> simp
theorem notN_notN (n : NodeD) : notN (notN n) = n := by
 unfold notN
 by_cases h : n.kids = []
 ·simp only [if_pos h, Bool.not_not]
 ·simp only [if_neg h]
theorem notD_notD (g : List NodeD) : notD (notD g) = g := by
 unfold notD; rw [List.map_map]
 have : notN ∘ notN = id := funext notN_notN
 rw [this, List.map_id]
section not_
variable {ds : List FactD} {g : List NodeD}
theorem notD_rng {i : Int} : Rng (notD g) i ↔ Rng g i := by unfold Rng notD; rw [List.length_map]
theorem notD_at {i : Int} (h : Rng g i) : nAt (notD g) i = notN (nAt g i) := by
 obtain ⟨n, rfl⟩ := Int.eq_ofNat_of_zero_le h.1
 have hn : n < g.length := by have := h.2; omega
 rw [nAt_nat hn, nAt_nat (by unfold notD; simpa using hn)]
 unfold notD; rw [List.getElem_map]
theorem notD_good (h : Good ds g) : Good ds (notD g) := by
 constructor
 ·intro n hn
  obtain ⟨m, hm, rfl⟩ := List.mem_map.1 hn
  obtain ⟨k1, k2, k3⟩ := notN_kids m
  rcases h.proper m hm with e | I
  ·exact Or.inl ⟨by rw [k1]; exact e.1, by rw [k3]; exact e.2.1, by rw [k2]; exact e.2.2⟩
  ·have e : notN m = m := by unfold notN; rw [if_neg I.ne]
   rw [e]
   refine Or.inr ⟨I.ne, I.leaf, I.f0, I.f1, I.cuts, I.len, I.asc, fun k hk => notD_rng.2 (I.rng k hk), fun k hk => ?_, I.diff⟩
   rw [notD_at (I.rng k hk), (notN_kids _).1, (notN_kids _).2.2]
   exact I.up k hk
 ·show List.Pairwise (· ≠ ·) _
  unfold notD
  rw [List.pairwise_map]
  refine List.Pairwise.imp (fun {a b} hne e => hne ?_) h.nodup
  rw [← notN_notN a, e, notN_notN]
theorem notD_S (h : Good ds g) : ∀ (r : Nat) (i : Int), Rng g i → rank ds g i ≤ r → ∀ c, S ds (notD g) i c = !S ds g i c
 | r, i, hi, hr, c => by
  have hat := notD_at hi
  by_cases hk : (nAt g i).kids = []
  ·rw [h.S_leaf hk, (notD_good h).S_leaf (by rw [hat, (notN_kids _).1]; exact hk), hat]
   unfold notN; rw [if_pos hk]
  ·have I := h.inner hi hk
   have hm := I.kid_rng (c.getD (nAt g i).fact.toNat 0)
   have hrk := h.rank_kid hi hm
   have e : notN (nAt g i) = nAt g i := by unfold notN; rw [if_neg hk]
   rw [h.S_inner hi hk, (notD_good h).S_inner (notD_rng.2 hi) (by rw [hat, e]; exact hk), hat, e]
   cases r with
   | zero => omega
   | succ r => exact notD_S h r _ hrk.1 (by omega) c
theorem notD_visit : ∀ (k : Nat) (i : Int) (o : List Int), (∀ j, (nAt (notD g) j).kids = (nAt g j).kids) → visitS (notD g) k i o = visitS g k i o
 | 0, _, _, _ => rfl
 | k + 1, i, o, h => by
  unfold visitS
  rw [h i]
  have : (fun (o : List Int) (x : Int) => visitS (notD g) k x o) = fun o x => visitS g k x o := funext fun o => funext fun x => notD_visit k x o h
  rw [this]
theorem notD_kids (j : Int) : (nAt (notD g) j).kids = (nAt g j).kids := by
 unfold nAt notD
 rw [List.getD_eq_getElem?_getD, List.getD_eq_getElem?_getD, List.getElem?_map]
 cases g[j.toNat]? with
 | none => rfl
 | some n => exact (notN_kids n).1
theorem notD_valid (h : IsValid ds g) : IsValid ds (notD g) := by
 refine ⟨h.dom, by unfold notD; simp [h.ne], by unfold notD; simpa using h.len, notD_good h.good, ?_⟩
 have ho : orderS ds (notD g) 0 = orderS ds g 0 := notD_visit _ _ _ notD_kids
 have hs := order_spec h.good h.rng
 have hc := h.canon
 unfold canonS at hc ⊢
 rw [ho]
 have : (orderS ds g 0).map (renum (notD g) (orderS ds g 0)) = ((orderS ds g 0).map (renum g (orderS ds g 0))).map notN := by
  rw [List.map_map]
  refine List.map_congr_left fun x hx => ?_
  have hat := notD_at (hs.rng x hx)
  obtain ⟨k1, k2, k3⟩ := notN_kids (nAt g x)
  simp only [Function.comp]
  unfold renum
  rw [hat, k1, k2, k3]
  unfold notN
  by_cases e : (nAt g x).kids = []
  ·simp [e]
  ·simp [e]
 rw [this, hc]; rfl
end not_
end Go.Proofs.YtcigjmlileckhaaGreatDoor
