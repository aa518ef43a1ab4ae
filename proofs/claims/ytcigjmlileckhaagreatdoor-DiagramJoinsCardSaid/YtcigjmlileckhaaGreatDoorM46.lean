/- Plain: And is symmetric; And of a diagram with itself, with its opposite, with the true leaf. No program in sight. Diagrams in boxes; And and Not as the laws want them. -/
import Derived.Test.YtcigjmlileckhaaGreatDoorM41
import Derived.Test.YtcigjmlileckhaaGreatDoorM39
import Derived.Test.YtcigjmlileckhaaGreatDoorM44
import Derived.Test.YtcigjmlileckhaaGreatDoorM45
import Derived.Test.YtcigjmlileckhaaGreatDoorM9
import Derived.Test.YtcigjmlileckhaaGreatDoorM14
/- Plain: And is symmetric; And of a diagram with itself, with its opposite, with the true leaf. No program in sight. -/
namespace Go.Proofs.YtcigjmlileckhaaGreatDoor
theorem list_bnd : ∀ l : List Int, ∃ lo hi, ∀ v ∈ l, lo < v ∧ v ≤ hi
 | [] => ⟨0, 0, by simp⟩
 | x :: l => by
  obtain ⟨lo, hi, h⟩ := list_bnd l
  refine ⟨min lo (x - 1), max hi x, fun v hv => ?_⟩
  rcases List.mem_cons.1 hv with rfl | hv
  ·omega
  ·have := h v hv; omega
theorem ascOf_ext {l m : List Int} (h : ∀ v, v ∈ l ↔ v ∈ m) : ascOf l = ascOf m := by
 obtain ⟨lo, hi, hb⟩ := list_bnd l
 exact asc_ext (ascOf_asc hb) (ascOf_asc fun v hv => hb v ((h v).2 hv)) fun v => by rw [ascOf_mem, ascOf_mem]; exact h v
theorem mix_sym (ds : List FactD) (p q : NodeD) : mixS ds q p = mixS ds p q := by
 unfold mixS
 rw [Int.min_comm (askS ds q)]
 congr 1
 exact ascOf_ext fun v => by rw [List.mem_append, List.mem_append]; exact Or.comm
def swP (p : (Int × Int) × Int) : (Int × Int) × Int := ((p.1.2, p.1.1), p.2)
def swA (st : ASt) : ASt := ⟨st.all, st.done.map swP⟩
theorem sw_iff {x y : Int} {p : (Int × Int) × Int} : (y, x) = (swP p).1 ↔ (x, y) = p.1 := by
 obtain ⟨⟨a, b⟩, c⟩ := p
 simp only [swP, Prod.mk.injEq]
 exact and_comm
theorem kvI_sw {x y : Int} : ∀ l : List ((Int × Int) × Int), kvI (l.map swP) (y, x) = kvI l (x, y)
 | [] => rfl
 | p :: l => by
  rw [List.map_cons]
  unfold kvI
  by_cases h : (x, y) = p.1
  ·rw [if_pos h, if_pos (sw_iff.2 h)]; rfl
  ·rw [if_neg h, if_neg (fun e => h (sw_iff.1 e)), kvI_sw l]
theorem kvISet_sw {x y v : Int} : ∀ l : List ((Int × Int) × Int), kvISet (l.map swP) (y, x) v = (kvISet l (x, y) v).map swP
 | [] => rfl
 | p :: l => by
  rw [List.map_cons]
  unfold kvISet
  by_cases h : (x, y) = p.1
  ·rw [if_pos h, if_pos (sw_iff.2 h)]; rfl
  ·rw [if_neg h, if_neg (fun e => h (sw_iff.1 e)), kvISet_sw l]; rfl
theorem kidsA_sw {f f' : Int → ASt → Int × ASt} (h : ∀ v st, f' v (swA st) = ((f v st).1, swA (f v st).2)) : ∀ (l : List Int) (st : ASt), kidsA f' l (swA st) = ((kidsA f l st).1, swA (kidsA f l st).2)
 | [], _ => rfl
 | v :: l, st => by
  unfold kidsA
  rw [h v st]
  simp only
  rw [kidsA_sw h l]
theorem both_sw (ds : List FactD) (a b : List NodeD) : ∀ (k : Nat) (x y : Int) (st : ASt), bothS ds b a k y x (swA st) = ((bothS ds a b k x y st).1, swA (bothS ds a b k x y st).2)
 | 0, _, _, _ => rfl
 | k + 1, x, y, st => by
  unfold bothS
  rw [show (swA st).done = st.done.map swP from rfl, kvI_sw, show (swA st).all = st.all from rfl, Int.min_comm (askS ds (nAt b y)), mix_sym, Bool.and_comm (nAt b y).leaf]
  cases kvI st.done (x, y) with
  | some r => rfl
  | none =>
   simp only
   by_cases hend : min (askS ds (nAt a x)) (askS ds (nAt b y)) = ds.length ∨ 4000 < st.all.length
   ·simp only [if_pos hend]; rfl
   ·simp only [if_neg hend]
    rw [kidsA_sw (f := fun v st => bothS ds a b k (stepS a x (min (askS ds (nAt a x)) (askS ds (nAt b y))) v) (stepS b y (min (askS ds (nAt a x)) (askS ds (nAt b y))) v) st) (fun v st => both_sw ds a b k _ _ st)]
    simp only [swA, kvISet_sw]
/-- The order of both makes no difference. -/
theorem and_sym (ds : List FactD) (a b : List NodeD) : andS ds b a = andS ds a b := by
 unfold andS
 have h := both_sw ds a b (ds.length + 1) 0 0 ⟨[], []⟩
 rw [show swA ⟨[], []⟩ = ⟨[], []⟩ from rfl] at h
 rw [h]
 simp only [and_comm (a := validS ds b = true), show ∀ st : ASt, (swA st).all = st.all from fun _ => rfl]
section
variable {ds : List FactD} {a b : List NodeD}
theorem and_is {g : List NodeD} (hg : IsValid ds g) (h0 : (andS ds a b).2 = 0) (hS : ∀ c, Fit ds c → (S ds a 0 c && S ds b 0 c) = S ds g 0 c) : andS ds a b = (g, 0) := by
 have e : andS ds a b = ((andS ds a b).1, 0) := Prod.ext rfl h0
 obtain ⟨-, -, hv, hs⟩ := and_ok e
 rw [e, hv.eq hg fun c hc => (hs c hc).trans (hS c hc)]
def diagA (n : Nat) : List (Int × Int) := (List.range n).map fun (i : Nat) => ((i : Int), (i : Int))
theorem diagA_mem {n : Nat} {p : Int × Int} : p ∈ diagA n ↔ (0 ≤ p.1 ∧ p.1 < n) ∧ p.2 = p.1 := by
 unfold diagA
 simp only [List.mem_map, List.mem_range]
 constructor
 ·rintro ⟨i, hi, rfl⟩
  exact ⟨⟨by simp, by simpa using hi⟩, rfl⟩
 ·rintro ⟨⟨h1, h2⟩, h3⟩
  exact ⟨p.1.toNat, by omega, Prod.ext (by simp only; omega) (by simp only; omega)⟩
theorem closed_diag (ha : Good ds a) (hl : b.length = a.length) (hk : ∀ j, (nAt b j).kids = (nAt a j).kids ∧ (nAt b j).cuts = (nAt a j).cuts ∧ (nAt b j).fact = (nAt a j).fact) : Closed ds a b (diagA a.length) := fun p hp => by
 obtain ⟨h1, h2⟩ := diagA_mem.1 hp
 refine ⟨h1, by rw [h2]; exact ⟨h1.1, by rw [hl]; exact h1.2⟩, fun v => diagA_mem.2 ⟨step_rng ha h1, ?_⟩⟩
 obtain ⟨k1, k2, k3⟩ := hk p.1
 rw [h2]
 simp only
 unfold stepS askS
 rw [k1, k2, k3]
theorem and_diag (ha : IsValid ds a) (hb : IsValid ds b) (hl : b.length = a.length) (hk : ∀ j, (nAt b j).kids = (nAt a j).kids ∧ (nAt b j).cuts = (nAt a j).cuts ∧ (nAt b j).fact = (nAt a j).fact) : (andS ds a b).2 = 0 :=
 and_few ha hb (closed_diag ha.good hl hk) (diagA_mem.2 ⟨ha.rng, rfl⟩) (by unfold diagA; rw [List.length_map, List.length_range]; exact ha.len)
theorem and_self_eq (ha : IsValid ds a) : andS ds a a = (a, 0) := and_is ha (and_diag ha ha rfl fun _ => ⟨rfl, rfl, rfl⟩) fun _ _ => Bool.and_self _
theorem leaf_valid (hd : validDom ds = true) (v : Bool) : IsValid ds [⟨v, 0, [], []⟩] := by
 refine ⟨hd, by simp, by simp, ⟨fun n hn => ?_, by simp⟩, ?_⟩
 ·rw [List.mem_singleton] at hn; subst hn; exact Or.inl ⟨rfl, rfl, rfl⟩
 ·simp [canonS, orderS, visitS, renum, nAt]
theorem notD_same (g : List NodeD) (j : Int) : (nAt (notD g) j).kids = (nAt g j).kids ∧ (nAt (notD g) j).cuts = (nAt g j).cuts ∧ (nAt (notD g) j).fact = (nAt g j).fact := by
 unfold nAt notD
 rw [List.getD_eq_getElem?_getD, List.getD_eq_getElem?_getD, List.getElem?_map]
 cases g[j.toNat]? with
 | none => exact ⟨rfl, rfl, rfl⟩
 | some n => exact notN_kids n
theorem not_S (ha : IsValid ds a) (c : List Int) : S ds (notD a) 0 c = !S ds a 0 c := notD_S ha.good _ 0 ha.rng (Nat.le_refl _) c
theorem and_not_eq (ha : IsValid ds a) : andS ds a (notD a) = ([noNode], 0) :=
 and_is (leaf_valid ha.dom false) (and_diag ha (notD_valid ha) (by unfold notD; rw [List.length_map]) (notD_same a)) fun c _ => by
  rw [not_S ha, Bool.and_not_self, show S ds [noNode] 0 c = false from (leaf_valid ha.dom false).good.S_leaf (by rfl) c]
theorem and_true_eq (ha : IsValid ds a) : andS ds [⟨true, 0, [], []⟩] a = (a, 0) :=
 and_is ha (and_few (leaf_valid ha.dom true) ha (closed_all (leaf_valid ha.dom true).good ha.good) (pairsA_mem.2 ⟨(leaf_valid ha.dom true).rng, ha.rng⟩) (by rw [pairsA_len]; have := ha.len; simpa using this)) fun c _ => by
  rw [(leaf_valid ha.dom true).good.S_leaf (by rfl)]; exact Bool.true_and _
end
end Go.Proofs.YtcigjmlileckhaaGreatDoor
/- Diagrams in boxes; And and Not as the laws want them. -/
namespace Go.Proofs.YtcigjmlileckhaaGreatDoor
open Go.RowKit
theorem Nodes.here {Z : Zone} {w : World} {v : Value} {g : List NodeD} (h : Nodes Z w v g) : Nodes (fun b => b < w.heap.size) w v g := h.live.mono fun _ hb => hb.2
/-- A diagram in a box. -/
structure Dgm (w : World) (b : Nat) (A : Option Addr) (cap : Nat) (g : List NodeD) : Prop where
 box : Blk w b 34 #[.slice A g.length cap]
 nod : Nodes (fun _ => True) w (.slice A g.length cap) g
theorem Dgm.on {w w' : World} {b : Nat} {A : Option Addr} {cap : Nat} {g : List NodeD} (h : Dgm w b A cap g) (hb : Below w.heap.size w w') : Dgm w' b A cap g := ⟨h.box.below hb h.box.lt, h.nod.keep (.of_below hb)⟩
theorem Dgm.new {Z : Zone} {w : World} {A : Option Addr} {cap : Nat} {g : List NodeD} (h : Nodes Z w (.slice A g.length cap) g) : Dgm (w.alloc (.cells #[.slice A g.length cap] 34)) w.heap.size A cap g :=
 ⟨Blk.new w _ _, (h.keep (.of_below (below1 w _))).mono fun _ _ => trivial⟩
theorem from_ok {Z : Zone} {g : List NodeD} {w w' : World} {e : Ending} (h : FromPost Z (g, 0) w e w') : ∃ A cap, e = .returned (.tuple #[.agg #[.slice A g.length cap], .int .i64 0]) ∧ Nodes (fun _ => True) w' (.slice A g.length cap) g ∧ Below w.heap.size w w' := by
 obtain ⟨v, rfl, hn, hb⟩ := h
 obtain ⟨A, cap, e, -, -, -⟩ := hn.open_
 simp only at e
 subst e
 exact ⟨A, cap, rfl, hn.mono fun _ _ => trivial, hb⟩
theorem and_law {va vb vd : Value} {a b g : List NodeD} {ds : List FactD} {w : World} (ha : Nodes (fun _ => True) w va a) (hb : Nodes (fun _ => True) w vb b) (hd : Facts (fun b => b < w.heap.size) w vd ds) (htab : TabB w.heap.size w) (h : andS ds a b = (g, 0)) :
  Calls Tryz.prog 24 #[.agg #[va], .agg #[vb], .agg #[vd]] w fun e w' => ∃ A cap, e = .returned (.tuple #[.agg #[.slice A g.length cap], .int .i64 0]) ∧ Nodes (fun _ => True) w' (.slice A g.length cap) g ∧ Below w.heap.size w w' :=
 (and_any (fun b => b < w.heap.size) va vb vd a b ds w ha.here hb.here hd (fun _ h => h) htab).mono fun e w' hp => by rw [h] at hp; exact from_ok hp
theorem not_law {v : Value} {g : List NodeD} {w : World} (h : Nodes (fun _ => True) w v g) :
  Calls Tryz.prog 32 #[.agg #[v]] w fun e w' => ∃ A cap, e = .returned (.agg #[.slice A (notD g).length cap]) ∧ Nodes (fun _ => True) w' (.slice A (notD g).length cap) (notD g) ∧ Below w.heap.size w w' :=
 (not_any _ v g w h).mono fun e w' ⟨v', e1, hn, hb⟩ => by
  obtain ⟨A, cap, e2, -, -, -⟩ := hn.open_
  subst e2
  exact ⟨A, cap, e1, hn.mono fun _ _ => trivial, hb⟩
theorem same_law {v v' : Value} {a b : List NodeD} {w : World} (ha : Nodes (fun _ => True) w v a) (hb : Nodes (fun _ => True) w v' b) (h : a = b) :
  Calls Tryz.prog 31 #[.agg #[v], .agg #[v']] w fun e w' => e = .returned (.bool true) ∧ Below w.heap.size w w' := by
 have := dsame_any _ _ v v' a b w ha hb
 rwa [decide_eq_true h] at this
theorem valid_law {v vd : Value} {g : List NodeD} {ds : List FactD} {w : World} (hg : Nodes (fun _ => True) w v g) (hd : Facts (fun _ => True) w vd ds) (htab : TabB w.heap.size w) (h : IsValid ds g) :
  Calls Tryz.prog 15 #[.agg #[v], .agg #[vd]] w fun e w' => e = .returned (.bool true) ∧ Below w.heap.size w w' := by
 have := dvalid_any _ v vd g ds w hg hd htab
 rwa [validS_iff.2 h] at this
theorem nodes_leaf (w : World) (b : Bool) : Nodes (fun _ => True) (w.alloc (.cells #[.bool b, .int .i64 0, .slice none 0 0, .slice none 0 0] 55)) (.slice (some ⟨w.heap.size, 0, none⟩) 1 1) [⟨b, 0, [], []⟩] := by
 have hB := Blk.new w 55 #[.bool b, .int .i64 0, .slice none 0 0, .slice none 0 0]
 refine ⟨_, 1, rfl, Nat.le_refl _, by omega, by simp, w.heap.size, 0, [.bool b, .int .i64 0, .slice none 0 0, .slice none 0 0], rfl, trivial, fun j u hu => ?_, ⟨_, _, rfl, by constructor <;> simp, Ints.nil _ _, Ints.nil _ _⟩, trivial⟩
 rw [Nat.zero_add, hB.cell j]
 simpa using hu
end Go.Proofs.YtcigjmlileckhaaGreatDoor
