/- Plain: the texts by which nodes and formulas are known: equal texts are those of equal things. No program in sight. Maps that the call has made, as lists of keys and values. Over any program. Plain: tables of nodes, what they mean, and that what they mean determines them. No program in sight. Plain: the order in which nodes are visited, and renumbering: it depends only on what the root says. No program in sight. Plain: a table that grows, and the node that asks a fact. No program in sight. -/
import Derived.Test.YtcigjmlileckhaaGreatDoorM1
import Derived.Lib.ItoaNum
import Derived.ChangeMaps4
/- Plain: the texts by which nodes and formulas are known: equal texts are those of equal things. No program in sight. -/
namespace Go.Proofs.YtcigjmlileckhaaGreatDoor
open Go.RowKit
def numVal (l : List UInt8) : Nat := l.foldl (fun a c => a * 10 + (c.toNat - 48)) 0
theorem digit_nat {d : Nat} (h : d < 10) : (UInt8.ofNat (48 + d)).toNat = 48 + d := by
 show (48 + d) % 256 = _; omega
theorem decDigits_val (u : Nat) : numVal (Lib.decDigits u) = u := by
 induction u using Nat.strongRecOn with
 | _ u ih =>
  rw [Lib.decDigits]
  by_cases h : u < 10
  ·rw [dif_pos h]
   unfold numVal
   rw [List.foldl_cons, List.foldl_nil, digit_nat h]; omega
  ·rw [dif_neg h]
   have := ih (u / 10) (by omega)
   unfold numVal at this ⊢
   rw [List.foldl_append, this, List.foldl_cons, List.foldl_nil, digit_nat (by omega)]; omega
def isDigit (c : UInt8) : Prop := 48 ≤ c.toNat ∧ c.toNat ≤ 57
theorem decDigits_digits (u : Nat) : ∀ c ∈ Lib.decDigits u, isDigit c := by
 induction u using Nat.strongRecOn with
 | _ u ih =>
  intro c hc
  rw [Lib.decDigits] at hc
  by_cases h : u < 10
  ·rw [dif_pos h] at hc
   rw [List.mem_singleton] at hc
   rw [hc]; unfold isDigit; rw [digit_nat h]; omega
  ·rw [dif_neg h] at hc
   rcases List.mem_append.1 hc with hc | hc
   ·exact ih (u / 10) (by omega) c hc
   ·rw [List.mem_singleton] at hc
    rw [hc]; unfold isDigit; rw [digit_nat (by omega)]; omega
theorem decDigits_inj {u v : Nat} (h : Lib.decDigits u = Lib.decDigits v) : u = v := by
 rw [← decDigits_val u, h, decDigits_val]
theorem decDigits_ne (u : Nat) : Lib.decDigits u ≠ [] := by
 rw [Lib.decDigits]; split <;> simp
theorem itoa_inj {m n : Int} (h : Lib.itoa m = Lib.itoa n) : m = n := by
 unfold Lib.itoa at h
 by_cases h1 : m < 0
 ·by_cases h2 : n < 0
  ·rw [if_pos h1, if_pos h2] at h
   injection h with _ h
   have := decDigits_inj h; omega
  ·rw [if_pos h1, if_neg h2] at h
   have := decDigits_digits n.toNat 45 (by rw [← h]; simp)
   unfold isDigit at this; simp at this
 ·by_cases h2 : n < 0
  ·rw [if_neg h1, if_pos h2] at h
   have := decDigits_digits m.toNat 45 (by rw [h]; simp)
   unfold isDigit at this; simp at this
  ·rw [if_neg h1, if_neg h2] at h
   have := decDigits_inj h; omega
theorem itoa_chars (n : Int) : ∀ c ∈ Lib.itoa n, isDigit c ∨ c = 45 := fun c hc => by
 unfold Lib.itoa at hc
 split at hc
 ·rcases List.mem_cons.1 hc with h | h
  ·exact Or.inr h
  ·exact Or.inl (decDigits_digits _ c h)
 ·exact Or.inl (decDigits_digits _ c hc)
theorem itoa_no {n : Int} {s : UInt8} (h1 : ¬ isDigit s) (h2 : s ≠ 45) : s ∉ Lib.itoa n := fun h => by
 rcases itoa_chars n s h with h | h
 ·exact h1 h
 ·exact h2 h
/-- What stands ahead of the first sign of a kind. -/
theorem split_sep {s : UInt8} : ∀ {A A' B B' : List UInt8}, s ∉ A → s ∉ A' → A ++ s :: B = A' ++ s :: B' → A = A' ∧ B = B'
 | [], [], _, _, _, _, h => by injection h with _ h; exact ⟨rfl, h⟩
 | [], a :: A', _, _, _, h2, h => by injection h with h _; exact absurd (by rw [h]; simp) h2
 | a :: A, [], _, _, h1, _, h => by injection h with h _; exact absurd (by rw [← h]; simp) h1
 | a :: A, b :: A', _, _, h1, h2, h => by
  injection h with h h'
  obtain ⟨e, e'⟩ := split_sep (fun h => h1 (List.mem_cons_of_mem _ h)) (fun h => h2 (List.mem_cons_of_mem _ h)) h'
  exact ⟨by rw [h, e], e'⟩
/-- What stands ahead of the first sign that is no digit. -/
theorem split_digits {x x' : UInt8} (hx : ¬ isDigit x) (hx' : ¬ isDigit x') : ∀ {A A' B B' : List UInt8}, (∀ c ∈ A, isDigit c) → (∀ c ∈ A', isDigit c) → A ++ x :: B = A' ++ x' :: B' → A = A' ∧ x :: B = x' :: B'
 | [], [], _, _, _, _, h => ⟨rfl, h⟩
 | [], a :: A', _, _, _, h2, h => by injection h with h _; exact absurd (h2 a (by simp)) (h ▸ hx)
 | a :: A, [], _, _, h1, _, h => by injection h with h _; exact absurd (h1 a (by simp)) (h ▸ hx')
 | a :: A, b :: A', _, _, h1, h2, h => by
  injection h with h h'
  obtain ⟨e, e'⟩ := split_digits hx hx' (fun c hc => h1 c (List.mem_cons_of_mem _ hc)) (fun c hc => h2 c (List.mem_cons_of_mem _ hc)) h'
  exact ⟨by rw [h, e], e'⟩
/-- Numbers, each with a comma behind it. -/
def itemsT (l : List Int) : List UInt8 := l.flatMap fun k => Lib.itoa k ++ [44]
theorem itemsT_cons (k : Int) (l : List Int) : itemsT (k :: l) = Lib.itoa k ++ 44 :: itemsT l := by unfold itemsT; rw [List.flatMap_cons]; simp
theorem items_no58 (l : List Int) : (58 : UInt8) ∉ itemsT l := fun h => by
 unfold itemsT at h
 obtain ⟨k, _, hk⟩ := List.mem_flatMap.1 h
 rcases List.mem_append.1 hk with hk | hk
 ·exact itoa_no (by unfold isDigit; decide) (by decide) hk
 ·simp at hk
theorem items_inj : ∀ {l m : List Int}, itemsT l = itemsT m → l = m
 | [], [], _ => rfl
 | [], k :: m, h => by rw [itemsT_cons] at h; have := congrArg List.length h; simp [itemsT] at this
 | k :: l, [], h => by rw [itemsT_cons] at h; have := congrArg List.length h; simp [itemsT] at this
 | k :: l, k' :: m, h => by
  rw [itemsT_cons, itemsT_cons] at h
  have hn : ∀ n, (44 : UInt8) ∉ Lib.itoa n := fun n => itoa_no (by unfold isDigit; decide) (by decide)
  obtain ⟨e, e'⟩ := split_sep (hn k) (hn k') h
  rw [itoa_inj e, items_inj e']
/-- The text of a node. -/
def writeT (n : NodeD) : List UInt8 := (if n.leaf = true then 49 else 48) :: (Lib.itoa n.fact ++ 58 :: (itemsT n.cuts ++ 58 :: itemsT n.kids))
theorem writeT_inj {m n : NodeD} (h : writeT m = writeT n) : m = n := by
 obtain ⟨a, b, c, d⟩ := m
 obtain ⟨a', b', c', d'⟩ := n
 unfold writeT at h
 injection h with h1 h
 simp only at h h1
 have hn : ∀ n, (58 : UInt8) ∉ Lib.itoa n := fun n => itoa_no (by unfold isDigit; decide) (by decide)
 obtain ⟨e1, h⟩ := split_sep (hn b) (hn b') h
 obtain ⟨e2, h⟩ := split_sep (items_no58 c) (items_no58 c') h
 have e3 : a = a' := by cases a <;> cases a' <;> simp_all
 rw [itoa_inj e1, items_inj e2, items_inj h, e3]
mutual
/-- The text of a formula. -/
def spellT : Fm → List UInt8
 | .mk op nm cm nu kids => Lib.itoa op ++ nm.data.toList ++ 44 :: (Lib.itoa cm ++ 44 :: (Lib.itoa nu ++ 40 :: (spellsT kids ++ [41])))
def spellsT : List Fm → List UInt8
 | [] => []
 | k :: r => spellT k ++ spellsT r
end
mutual
/-- Its operations have one digit, and its names are names, or empty. -/
def plainF : Fm → Bool
 | .mk op nm _ _ kids => decide (1 ≤ op) && decide (op ≤ 6) && (if op = 3 then isName nm.data.toList else decide (nm = ⟨#[]⟩)) && plainFs kids
def plainFs : List Fm → Bool
 | [] => true
 | k :: r => plainF k && plainFs r
end
theorem itoa_op {op : Int} (h1 : 1 ≤ op) (h6 : op ≤ 6) : Lib.itoa op = [UInt8.ofNat (48 + op.toNat)] := by
 unfold Lib.itoa
 rw [if_neg (by omega), Lib.decDigits, dif_pos (by omega)]
theorem op_digit {op : Int} (h1 : 1 ≤ op) (h6 : op ≤ 6) : (UInt8.ofNat (48 + op.toNat)).toNat = 48 + op.toNat := digit_nat (by omega)
theorem op_inj {op op' : Int} (h1 : 1 ≤ op) (h6 : op ≤ 6) (h1' : 1 ≤ op') (h6' : op' ≤ 6) (h : UInt8.ofNat (48 + op.toNat) = UInt8.ofNat (48 + op'.toNat)) : op = op' := by
 have := congrArg UInt8.toNat h
 rw [op_digit h1 h6, op_digit h1' h6'] at this
 omega
/-- A name, or none: what follows it begins with no digit, and it has no comma. -/
def NameOr (l : List UInt8) : Prop := (44 : UInt8) ∉ l ∧ ∀ r, ∃ x B, ¬ isDigit x ∧ l ++ 44 :: r = x :: B
theorem nameOr_of {op : Int} {nm : ByteArray} (h : (if op = 3 then isName nm.data.toList else decide (nm = ⟨#[]⟩)) = true) : NameOr nm.data.toList := by
 split at h
 ·generalize nm.data.toList = l at *
  cases l with
  | nil => simp [isName] at h
  | cons c r =>
   unfold isName at h
   simp only [Bool.and_eq_true, List.all_eq_true] at h
   obtain ⟨⟨hc, hr⟩, _⟩ := h
   have hlet : isLetter c = true → c ≠ 44 ∧ ¬ isDigit c := fun h => by
    unfold isLetter at h
    simp only [Bool.or_eq_true, decide_eq_true_eq] at h
    refine ⟨fun e => ?_, fun e => ?_⟩
    ·subst e; simp at h
    ·unfold isDigit at e; omega
   refine ⟨fun hm => ?_, fun r' => ⟨c, r ++ 44 :: r', (hlet hc).2, rfl⟩⟩
   rcases List.mem_cons.1 hm with e | e
   ·exact (hlet hc).1 e.symm
   ·have := hr _ e
    revert this; decide
 ·have e : nm.data.toList = [] := by rw [decide_eq_true_eq] at h; rw [h]
  rw [e]
  exact ⟨by simp, fun r => ⟨44, r, by unfold isDigit; decide, rfl⟩⟩
theorem name_inj {a b : ByteArray} (h : a.data.toList = b.data.toList) : a = b := by
 cases a; cases b; simp only at h; congr 1; exact Array.toList_inj.1 h
mutual
theorem spellT_inj : ∀ {f g : Fm} {r r' : List UInt8}, plainF f = true → plainF g = true → spellT f ++ r = spellT g ++ r' → f = g ∧ r = r'
 | .mk op nm cm nu kids, .mk op' nm' cm' nu' kids', r, r', h1, h2, h => by
  rw [plainF] at h1 h2
  simp only [Bool.and_eq_true, decide_eq_true_eq] at h1 h2
  obtain ⟨⟨⟨a1, a2⟩, a3⟩, a4⟩ := h1
  obtain ⟨⟨⟨b1, b2⟩, b3⟩, b4⟩ := h2
  rw [spellT, spellT, itoa_op a1 a2, itoa_op b1 b2] at h
  simp only [List.cons_append, List.nil_append, List.append_assoc] at h
  injection h with h0 h
  have n1 := (nameOr_of a3).1
  have n2 := (nameOr_of b3).1
  have hn : ∀ n, (44 : UInt8) ∉ Lib.itoa n := fun n => itoa_no (by unfold isDigit; decide) (by decide)
  have hn' : ∀ n, (40 : UInt8) ∉ Lib.itoa n := fun n => itoa_no (by unfold isDigit; decide) (by decide)
  obtain ⟨e1, h⟩ := split_sep n1 n2 h
  obtain ⟨e2, h⟩ := split_sep (hn cm) (hn cm') h
  obtain ⟨e3, h⟩ := split_sep (hn' nu) (hn' nu') h
  obtain ⟨e4, h⟩ := spellsT_inj a4 b4 h
  exact ⟨by rw [op_inj a1 a2 b1 b2 h0, name_inj e1, itoa_inj e2, itoa_inj e3, e4], h⟩
theorem spellsT_inj : ∀ {l m : List Fm} {r r' : List UInt8}, plainFs l = true → plainFs m = true → spellsT l ++ 41 :: r = spellsT m ++ 41 :: r' → l = m ∧ r = r'
 | [], [], _, _, _, _, h => by simp [spellsT] at h; exact ⟨rfl, h⟩
 | [], .mk op nm cm nu kids :: m, r, r', _, h2, h => by
  rw [plainFs, plainF] at h2
  simp only [Bool.and_eq_true, decide_eq_true_eq] at h2
  rw [spellsT, spellsT, spellT, itoa_op h2.1.1.1.1 h2.1.1.1.2] at h
  simp only [List.cons_append, List.nil_append] at h
  injection h with h _
  have := congrArg UInt8.toNat h
  rw [op_digit h2.1.1.1.1 h2.1.1.1.2] at this
  simp at this; omega
 | .mk op nm cm nu kids :: l, [], r, r', h1, _, h => by
  rw [plainFs, plainF] at h1
  simp only [Bool.and_eq_true, decide_eq_true_eq] at h1
  rw [spellsT, spellsT, spellT, itoa_op h1.1.1.1.1 h1.1.1.1.2] at h
  simp only [List.cons_append, List.nil_append] at h
  injection h with h _
  have := congrArg UInt8.toNat h
  rw [op_digit h1.1.1.1.1 h1.1.1.1.2] at this
  simp at this; omega
 | f :: l, g :: m, r, r', h1, h2, h => by
  rw [plainFs] at h1 h2
  simp only [Bool.and_eq_true] at h1 h2
  rw [spellsT, spellsT, List.append_assoc, List.append_assoc] at h
  obtain ⟨e, h⟩ := spellT_inj h1.1 h2.1 h
  obtain ⟨e', h⟩ := spellsT_inj h1.2 h2.2 h
  exact ⟨by rw [e, e'], h⟩
end
/-- The text of a formula from a fact on. -/
def keyT (i : Nat) (f : Fm) : List UInt8 := Lib.itoa i ++ spellT f
theorem keyT_inj {i j : Nat} {f g : Fm} (h1 : plainF f = true) (h2 : plainF g = true) (h : keyT i f = keyT j g) : i = j ∧ f = g := by
 obtain ⟨op, nm, cm, nu, kids⟩ := f
 obtain ⟨op', nm', cm', nu', kids'⟩ := g
 have p1 := h1
 have p2 := h2
 rw [plainF] at h1 h2
 simp only [Bool.and_eq_true, decide_eq_true_eq] at h1 h2
 obtain ⟨⟨⟨a1, a2⟩, a3⟩, a4⟩ := h1
 obtain ⟨⟨⟨b1, b2⟩, b3⟩, b4⟩ := h2
 have hi : ∀ n : Nat, ∀ c ∈ Lib.itoa (n : Int), isDigit c := fun n c hc => by
  unfold Lib.itoa at hc
  rw [if_neg (by omega)] at hc
  exact decDigits_digits _ c hc
 have hsp := h
 unfold keyT at hsp
 unfold keyT at h
 rw [spellT, spellT, itoa_op a1 a2, itoa_op b1 b2] at h
 obtain ⟨x, B, hx, ex⟩ := (nameOr_of a3).2 (Lib.itoa cm ++ 44 :: (Lib.itoa nu ++ 40 :: (spellsT kids ++ [41])))
 obtain ⟨x', B', hx', ex'⟩ := (nameOr_of b3).2 (Lib.itoa cm' ++ 44 :: (Lib.itoa nu' ++ 40 :: (spellsT kids' ++ [41])))
 have h' : (Lib.itoa (i : Int) ++ [UInt8.ofNat (48 + op.toNat)]) ++ x :: B = (Lib.itoa (j : Int) ++ [UInt8.ofNat (48 + op'.toNat)]) ++ x' :: B' := by
  rw [← ex, ← ex']
  simpa using h
 have hd : ∀ (n : Nat) (o : Int), 1 ≤ o → o ≤ 6 → ∀ c ∈ Lib.itoa (n : Int) ++ [UInt8.ofNat (48 + o.toNat)], isDigit c := fun n o h1 h6 c hc => by
  rcases List.mem_append.1 hc with hc | hc
  ·exact hi n c hc
  ·rw [List.mem_singleton] at hc
   rw [hc]; unfold isDigit; rw [op_digit h1 h6]; omega
 obtain ⟨e, _⟩ := split_digits hx hx' (hd i op a1 a2) (hd j op' b1 b2) h'
 have e1 := (List.append_inj' e rfl).1
 have eij : i = j := by have := itoa_inj e1; omega
 subst eij
 have := List.append_cancel_left hsp
 exact ⟨rfl, (spellT_inj (r := []) (r' := []) p1 p2 (by simpa using this)).1⟩
end Go.Proofs.YtcigjmlileckhaaGreatDoor
/- Maps that the call has made, as lists of keys and values. Over any program. -/
namespace Go.Proofs.YtcigjmlileckhaaGreatDoor
open Go.RowKit
section kv
variable {κ : Type} [DecidableEq κ]
def kvGet : List (κ × Value) → κ → Option Value
 | [], _ => none
 | p :: r, x => if x = p.1 then some p.2 else kvGet r x
def kvFind : List (κ × Value) → κ → Nat → Option (Nat × Value)
 | [], _, _ => none
 | p :: r, x, i => if x = p.1 then some (i, p.2) else kvFind r x (i + 1)
def kvSet : List (κ × Value) → κ → Value → List (κ × Value)
 | [], x, v => [(x, v)]
 | p :: r, x, v => if x = p.1 then (p.1, v) :: r else p :: kvSet r x v
theorem kvFind_get (l : List (κ × Value)) (x : κ) : ∀ i, (kvFind l x i).map (·.2) = kvGet l x := by
 induction l with
 | nil => intro i; rfl
 | cons p r ih =>
  intro i
  unfold kvFind kvGet
  split
  ·rfl
  ·exact ih (i + 1)
theorem kvGet_set_same (l : List (κ × Value)) (x : κ) (v : Value) : kvGet (kvSet l x v) x = some v := by
 induction l with
 | nil => simp [kvSet, kvGet]
 | cons p r ih =>
  unfold kvSet
  split
  ·rename_i h; simp [kvGet, h]
  ·rename_i h; simp [kvGet, h, ih]
theorem kvGet_set_other {x y : κ} (h : y ≠ x) (l : List (κ × Value)) (v : Value) : kvGet (kvSet l x v) y = kvGet l y := by
 induction l with
 | nil => simp [kvSet, kvGet, h]
 | cons p r ih =>
  unfold kvSet
  split
  ·rename_i e; subst e; simp [kvGet, h]
  ·simp [kvGet, ih]
theorem kvSet_length_le (l : List (κ × Value)) (x : κ) (v : Value) : (kvSet l x v).length ≤ l.length + 1 := by
 induction l with
 | nil => simp [kvSet]
 | cons p r ih =>
  unfold kvSet
  split <;> simp
  exact ih
theorem kvSet_length (l : List (κ × Value)) (x : κ) (v : Value) : (kvSet l x v).length = if kvGet l x = none then l.length + 1 else l.length := by
 induction l with
 | nil => simp [kvSet, kvGet]
 | cons p r ih =>
  unfold kvSet kvGet
  split
  ·simp
  ·simp only [List.length_cons, ih]; split <;> rfl
end kv
/-- What a key's type has to give. -/
structure KeyOk (P : Program) (k : TypeId) {κ : Type} [DecidableEq κ] (enc : κ → Value) : Prop where
 check : ∀ (w : World) (em : Bool) (x : κ), (Instr.checkKey em 10000 k (enc x)).run P w = .ok () w
 find : ∀ (w : World) (x : κ) (es : List MapEntry) (kv : List (κ × Value)), es.map (fun e => (e.key, e.val)) = kv.map (fun p => (enc p.1, p.2)) →
  (Instr.findKey k (enc x) es).run P w = .ok (kvFind kv x 0) w
 stays : ∀ (w : World) (x : κ), (Instr.keyThatStays (enc x) (enc x)).run P w = .ok (enc x) w
/-- Block b is a map that reads so. -/
def MapIs {κ : Type} (enc : κ → Value) (w : World) (b : Nat) (kv : List (κ × Value)) : Prop :=
 ∃ es clock, w.heap[b]? = some (.map es clock) ∧ es.toList.map (fun e => (e.key, e.val)) = kv.map (fun p => (enc p.1, p.2))
section laws
variable {P : Program} {κ : Type} [DecidableEq κ] {enc : κ → Value} {t k e : TypeId} {w : World} {b : Nat} {kv : List (κ × Value)}
omit [DecidableEq κ] in
theorem MapIs.lt (h : MapIs enc w b kv) : b < w.heap.size := by
 obtain ⟨es, clock, hb, _⟩ := h
 exact (Array.getElem?_eq_some_iff.1 hb).1
omit [DecidableEq κ] in
theorem MapIs.made (w : World) (enc : κ → Value) : MapIs enc (w.alloc (.map #[] 0)) w.heap.size [] :=
 ⟨#[], 0, heap_alloc_new w _, rfl⟩
omit [DecidableEq κ] in
theorem MapIs.of_block {w' : World} (h : MapIs enc w b kv) (hb : w'.heap[b]? = w.heap[b]?) : MapIs enc w' b kv := by
 obtain ⟨es, clock, h1, h2⟩ := h
 exact ⟨es, clock, hb.trans h1, h2⟩
theorem MapIs.look (h : MapIs enc w b kv) (K : KeyOk P k enc) (ht : P.underlying t = some (.map k e)) {z : Value} (hz : (zeroValue e).run P w = .ok z w) (x : κ) (c : Bool) :
  (Instr.lookup t (.map (some b)) (enc x) c).run P w = .ok (if c then .tuple #[(kvGet kv x).getD z, .bool (kvGet kv x).isSome] else (kvGet kv x).getD z) w := by
 obtain ⟨es, clock, hb, hm⟩ := h
 have hf := K.find w x es.toList kv hm
 rw [← kvFind_get kv x 0]
 cases hk : kvFind kv x 0 with
 | none => rw [hk] at hf; simp [Instr.lookup, run_underlying ht, MapKept.run_getObj_map hb, K.check w _ x, hf, hz, Result.andThen]
 | some r => rw [hk] at hf; simp [Instr.lookup, run_underlying ht, MapKept.run_getObj_map hb, K.check w _ x, hf, Result.andThen]
theorem list_modify_map (es : List MapEntry) (kv : List (κ × Value)) (hm : es.map (fun e => (e.key, e.val)) = kv.map (fun p => (enc p.1, p.2))) (x : κ) (v : Value) :
  ∀ i j (u : Value), kvFind kv x i = some (j, u) → i ≤ j ∧ (es[j - i]?).map (·.key) = some (enc x) ∧ (es.modify (j - i) fun e => { e with key := enc x, val := v }).map (fun e => (e.key, e.val)) = (kvSet kv x v).map (fun p => (enc p.1, p.2)) := by
 induction kv generalizing es with
 | nil => intro i j u h; simp [kvFind] at h
 | cons p r ih =>
  intro i j u h
  cases es with
  | nil => simp at hm
  | cons e0 es =>
   simp only [List.map_cons, List.cons.injEq] at hm
   obtain ⟨h0, hr⟩ := hm
   unfold kvFind at h
   unfold kvSet
   by_cases hx : x = p.1
   ·rw [if_pos hx] at h ⊢
    injection h with h
    injection h with hj hu
    subst hj
    have hk : e0.key = enc p.1 := by injection h0
    refine ⟨Nat.le_refl _, ?_, ?_⟩
    ·simp [hk, hx]
    ·simp [hx, hr]
   ·rw [if_neg hx] at h ⊢
    obtain ⟨h1, h2, h3⟩ := ih es hr (i + 1) j u h
    have e1 : j - i = (j - (i + 1)) + 1 := by omega
    refine ⟨by omega, ?_, ?_⟩
    ·rw [e1]; simpa using h2
    ·rw [e1, List.modify_succ_cons, List.map_cons, List.map_cons, h3, h0]
theorem kvSet_none {x : κ} (v : Value) : ∀ {kv : List (κ × Value)} {i : Nat}, kvFind kv x i = none → kvSet kv x v = kv ++ [(x, v)]
 | [], _, _ => rfl
 | p :: r, i, h => by
  unfold kvFind at h
  unfold kvSet
  split at h
  ·cases h
  ·rename_i hx; rw [if_neg hx, kvSet_none v h]; rfl
theorem MapIs.store (h : MapIs enc w b kv) (K : KeyOk P k enc) (ht : P.underlying t = some (.map k e)) (x : κ) (v : Value) :
  ∃ w1, (Instr.mapUpdate t (.map (some b)) (enc x) v).run P w = .ok () w1 ∧ MapIs enc w1 b (kvSet kv x v) ∧ Keeps (fun c => c ≠ b) w w1 ∧ w1.heap.size = w.heap.size ∧ (∀ a, w1.cell? a = w.cell? a) ∧ (∀ a, w1.frozen? a = w.frozen? a) := by
 obtain ⟨es, clock, hb, hm⟩ := h
 have hf := K.find w x es.toList kv hm
 have hlt := (Array.getElem?_eq_some_iff.1 hb).1
 have fin : ∀ es' clock', (∀ a, (ChangeMaps.setBlock w b (.map es' clock')).cell? a = w.cell? a) ∧ (∀ a, (ChangeMaps.setBlock w b (.map es' clock')).frozen? a = w.frozen? a) ∧ Keeps (fun c => c ≠ b) w (ChangeMaps.setBlock w b (.map es' clock')) ∧ (ChangeMaps.setBlock w b (.map es' clock')).heap.size = w.heap.size ∧ (ChangeMaps.setBlock w b (.map es' clock')).heap[b]? = some (.map es' clock') := by
  intro es' clock'
  have hh : ∀ c, (ChangeMaps.setBlock w b (.map es' clock')).heap[c]? = if b = c then some (.map es' clock') else w.heap[c]? := by
   intro c
   simp only [ChangeMaps.setBlock, Array.getElem?_setIfInBounds]
   split
   ·rename_i hc; subst hc; simp
   ·rfl
  refine ⟨fun a => ?_, fun a => ?_, ⟨rfl, rfl, rfl, by simp [ChangeMaps.setBlock], fun c _ hc => ?_⟩, by simp [ChangeMaps.setBlock], ?_⟩
  ·unfold World.cell?
   rw [hh]
   by_cases hc : b = a.block
   ·rw [if_pos hc, ← hc, hb]
   ·rw [if_neg hc]
  ·unfold World.frozen?
   rw [hh]
   by_cases hc : b = a.block
   ·rw [if_pos hc, ← hc, hb]
   ·rw [if_neg hc]
  ·rw [hh, if_neg (fun e => hc e.symm)]
  ·rw [hh, if_pos rfl]
 cases hk : kvFind kv x 0 with
 | none =>
  rw [hk] at hf
  obtain ⟨f1, f2, f3, f4, f5⟩ := fin (es.push { key := enc x, val := v, born := clock }) (clock + 1)
  refine ⟨_, by simp [Instr.mapUpdate, run_underlying ht, MapKept.run_getObj_map hb, K.check w _ x, hf, MapKept.run_setObj_map _ hb, Result.andThen]; rfl, ⟨_, _, f5, ?_⟩, f3, f4, f1, f2⟩
  rw [kvSet_none v hk]
  simp [hm]
 | some r =>
  obtain ⟨j, u⟩ := r
  rw [hk] at hf
  obtain ⟨_, h2, h3⟩ := list_modify_map es.toList kv hm x v 0 j u hk
  simp only [Nat.sub_zero] at h2 h3
  have hj : es[j]?.map (·.key) = some (enc x) := by simpa using h2
  obtain ⟨f1, f2, f3, f4, f5⟩ := fin (es.modify j fun e => { e with key := enc x, val := v }) clock
  refine ⟨_, by simp [Instr.mapUpdate, run_underlying ht, MapKept.run_getObj_map hb, K.check w _ x, hf, hj, K.stays, MapKept.run_setObj_map _ hb, Result.andThen]; rfl, ⟨_, _, f5, ?_⟩, f3, f4, f1, f2⟩
  simpa using h3
theorem wpList_mapStore {ops : Array Oper} {rest : List Oper} {o : Oper} {a : Act} {Q : Exit → Act → World → Prop} (hg : o.guard = none) (m x y : Operand) (hop : o.op = Op.mapUpdate t m x y)
  (K : KeyOk P k enc) (ht : P.underlying t = some (.map k e)) (hm : a.eval m = .map (some b)) (h : MapIs enc w b kv) (key : κ) (hx : a.eval x = enc key)
  (hK : ∀ w1, MapIs enc w1 b (kvSet kv key (a.eval y)) → Keeps (fun c => c ≠ b) w w1 → w1.heap.size = w.heap.size → (∀ a, w1.cell? a = w.cell? a) → (∀ a, w1.frozen? a = w.frozen? a) → wpList P ops Q rest (a.put o.dst undef) w1) :
  wpList P ops Q (o :: rest) a w := by
 refine wpList_plain hg fun K' hK' => ?_
 obtain ⟨w1, hrun, h1, h2, h3, h4, h5⟩ := h.store K ht key (a.eval y)
 unfold Oper.wp
 simp [execOp, hop, hm, hx, hrun, Result.andThen]
 exact hK' _ _ (hK w1 h1 h2 h3 h4 h5)
theorem wpList_mapLook {ops : Array Oper} {rest : List Oper} {o : Oper} {a : Act} {Q : Exit → Act → World → Prop} (hg : o.guard = none) (m x : Operand) (c : Bool) (hop : o.op = Op.lookup t m x c)
  (K : KeyOk P k enc) (ht : P.underlying t = some (.map k e)) {z : Value} (hz : (zeroValue e).run P w = .ok z w) (hm : a.eval m = .map (some b)) (h : MapIs enc w b kv) (key : κ) (hx : a.eval x = enc key) {v : Value}
  (hv : (if c then .tuple #[(kvGet kv key).getD z, .bool (kvGet kv key).isSome] else (kvGet kv key).getD z) = v) (hK : wpList P ops Q rest (a.put o.dst v) w) :
  wpList P ops Q (o :: rest) a w := by
 refine wpList_plain hg fun K' hK' => ?_
 have hrun := h.look K ht hz key c
 rw [hv] at hrun
 unfold Oper.wp
 simp [execOp, hop, hm, hx, hrun, Result.andThen]
 exact hK' _ _ hK
end laws
section kinds
variable {P : Program} {k : TypeId}
theorem find_now {κ : Type} [DecidableEq κ] {enc : κ → Value} {d : TypeDesc} (hn : ∀ x y : κ, Instr.sameNow d (enc x) (enc y) = some (decide (x = y))) (x : κ) :
  ∀ (es : List MapEntry) (kv : List (κ × Value)) (i : Nat), es.map (fun e => (e.key, e.val)) = kv.map (fun p => (enc p.1, p.2)) → Instr.findNow d (enc x) es i = some (kvFind kv x i)
 | [], [], _, _ => rfl
 | [], _ :: _, _, h => by simp at h
 | _ :: _, [], _, h => by simp at h
 | e :: es, p :: kv, i, h => by
  simp only [List.map_cons, List.cons.injEq, Prod.mk.injEq] at h
  obtain ⟨⟨h1, h2⟩, h3⟩ := h
  unfold Instr.findNow kvFind
  rw [h1, hn]
  by_cases hx : x = p.1
  ·simp [hx, h2]
  ·simp [hx, find_now hn x es kv (i + 1) h3]
theorem keyOk_now {κ : Type} [DecidableEq κ] {enc : κ → Value} {d : TypeDesc} (hk : P.underlying k = some d) (hn : ∀ x y : κ, Instr.sameNow d (enc x) (enc y) = some (decide (x = y)))
  (hc : ∀ (w : World) (em : Bool) (x : κ), (Instr.checkKey em 10000 k (enc x)).run P w = .ok () w) (hs : ∀ x : κ, Instr.sameBits 10000 (enc x) (enc x) = true) : KeyOk P k enc where
 check := hc
 find w x es kv h := by
  simp [Instr.findKey, run_underlying hk, find_now hn x es kv 0 h]
 stays w x := by simp [Instr.keyThatStays, hs]
def encS (s : ByteArray) : Value := .string s
def encI (n : Int) : Value := .int .i64 n
def encP (p : Int × Int) : Value := .agg #[.int .i64 p.1, .int .i64 p.2]
theorem keyOk_string (hk : P.underlying k = some .string) : KeyOk P k encS :=
 keyOk_now hk (fun x y => by
  simp only [encS, Instr.sameNow]; congr 1; rw [Bool.eq_iff_iff, MapKept.bytes_beq]; simp) (fun w em x => MapKept.run_checkKey hk (by simp [encS, MapKept.IsKey]) em 9999) (fun x => by
  simp only [encS, Instr.sameBits]; exact (MapKept.bytes_beq x x).2 rfl)
theorem keyOk_int (hk : P.underlying k = some (.int .i64)) : KeyOk P k encI :=
 keyOk_now hk (fun x y => by simp only [encI, Instr.sameNow]; simp; rw [Bool.eq_iff_iff]; simp) (fun w em x => MapKept.run_checkKey hk (by simp [encI, MapKept.IsKey]) em 9999) (fun x => by simp [encI, Instr.sameBits])
end kinds
end Go.Proofs.YtcigjmlileckhaaGreatDoor
/- Plain: tables of nodes, what they mean, and that what they mean determines them. No program in sight. -/
namespace Go.Proofs.YtcigjmlileckhaaGreatDoor
open Go.RowKit
def noNode : NodeD := ⟨false, 0, [], []⟩
def nAt (g : List NodeD) (i : Int) : NodeD := g.getD i.toNat noNode
def Rng (g : List NodeD) (i : Int) : Prop := 0 ≤ i ∧ i < g.length
def noFact : FactD := ⟨⟨#[]⟩, 0, 0, 0⟩
def fAt (ds : List FactD) (i : Int) : FactD := ds.getD i.toNat noFact
/-- Cuts increase, from behind lo to hi. -/
def ascFrom (lo hi : Int) : List Int → Prop
 | [] => True
 | c :: r => lo < c ∧ c ≤ hi ∧ ascFrom c hi r
structure Inner (ds : List FactD) (g : List NodeD) (n : NodeD) : Prop where
 ne : n.kids ≠ []
 leaf : n.leaf = false
 f0 : 0 ≤ n.fact
 f1 : n.fact < ds.length
 cuts : n.cuts ≠ []
 len : n.kids.length = n.cuts.length + 1
 asc : ascFrom (fAt ds n.fact).lo (fAt ds n.fact).hi n.cuts
 rng : ∀ k ∈ n.kids, Rng g k
 up : ∀ k ∈ n.kids, (nAt g k).kids ≠ [] → n.fact < (nAt g k).fact
 diff : ∀ j, j + 1 < n.kids.length → n.kids.getD j 0 ≠ n.kids.getD (j + 1) 0
def LeafN (n : NodeD) : Prop := n.kids = [] ∧ n.fact = 0 ∧ n.cuts = []
def Proper (ds : List FactD) (g : List NodeD) (n : NodeD) : Prop := LeafN n ∨ Inner ds g n
structure Good (ds : List FactD) (g : List NodeD) : Prop where
 proper : ∀ n ∈ g, Proper ds g n
 nodup : g.Nodup
theorem nAt_mem {g : List NodeD} {i : Int} (h : Rng g i) : nAt g i ∈ g := by
 obtain ⟨h0, h1⟩ := h
 have : i.toNat < g.length := by omega
 unfold nAt
 rw [List.getD_eq_getElem?_getD, List.getElem?_eq_getElem this]
 exact List.getElem_mem this
theorem nAt_nat {g : List NodeD} {i : Nat} (h : i < g.length) : nAt g i = g[i] := by
 unfold nAt
 rw [List.getD_eq_getElem?_getD, Int.toNat_natCast, List.getElem?_eq_getElem h]; rfl
theorem nodup_at {g : List NodeD} (h : g.Nodup) {i j : Int} (hi : Rng g i) (hj : Rng g j) (e : nAt g i = nAt g j) : i = j := by
 obtain ⟨a, rfl⟩ := Int.eq_ofNat_of_zero_le hi.1
 obtain ⟨b, rfl⟩ := Int.eq_ofNat_of_zero_le hj.1
 have ha : a < g.length := by have := hi.2; omega
 have hb : b < g.length := by have := hj.2; omega
 rw [nAt_nat ha, nAt_nat hb] at e
 have := (List.getElem_inj h).1 e
 rw [this]
/-- The index of the kid for a value. -/
def nx : List Int → Int → Nat
 | [], _ => 0
 | c :: r, v => if v < c then 0 else nx r v + 1
theorem nx_le (l : List Int) (v : Int) : nx l v ≤ l.length := by
 induction l with
 | nil => exact Nat.le_refl _
 | cons c r ih => unfold nx; split <;> simp <;> omega
theorem nx_low {lo hi : Int} {l : List Int} (h : ascFrom lo hi l) {v : Int} (hv : v ≤ lo) : nx l v = 0 := by
 cases l with
 | nil => rfl
 | cons c r => unfold nx; rw [if_pos (by have := h.1; omega)]
theorem asc_mono {lo lo' hi : Int} {l : List Int} (h : ascFrom lo hi l) (hl : lo' ≤ lo) : ascFrom lo' hi l := by
 cases l with
 | nil => trivial
 | cons c r => exact ⟨by have := h.1; omega, h.2.1, h.2.2⟩
theorem asc_mem {lo hi : Int} : ∀ {l : List Int}, ascFrom lo hi l → ∀ c ∈ l, lo < c ∧ c ≤ hi
 | [], _, _, h => absurd h (by simp)
 | c :: r, h, x, hx => by
  rcases List.mem_cons.1 hx with rfl | hx
  ·exact ⟨h.1, h.2.1⟩
  ·have := asc_mem (asc_mono h.2.2 (Int.le_of_lt h.1)) x hx; exact this
theorem nx_mem : ∀ {lo hi : Int} {l : List Int} {v : Int}, ascFrom lo hi l → v ∈ l → nx l v = nx l (v - 1) + 1
 | _, _, [], _, _, h => absurd h (by simp)
 | lo, hi, c :: r, v, ha, h => by
  unfold nx
  rcases List.mem_cons.1 h with rfl | h
  ·rw [if_neg (by omega), if_pos (by omega), nx_low ha.2.2 (Int.le_refl _)]
  ·have hc := (asc_mem ha.2.2 v h).1
   rw [if_neg (by omega), if_neg (by omega), nx_mem ha.2.2 h]
theorem nx_not {l : List Int} {v : Int} (h : v ∉ l) : nx l v = nx l (v - 1) := by
 induction l with
 | nil => rfl
 | cons c r ih =>
  simp only [List.mem_cons, not_or] at h
  unfold nx
  by_cases h1 : v < c
  ·rw [if_pos h1, if_pos (by omega)]
  ·rw [if_neg h1, if_neg (by omega), ih h.2]
theorem asc_ext : ∀ {lo hi : Int} {l m : List Int}, ascFrom lo hi l → ascFrom lo hi m → (∀ v, v ∈ l ↔ v ∈ m) → l = m
 | _, _, [], [], _, _, _ => rfl
 | _, _, [], c :: r, _, _, h => absurd ((h c).2 (by simp)) (by simp)
 | _, _, c :: r, [], _, _, h => absurd ((h c).1 (by simp)) (by simp)
 | lo, hi, c :: r, d :: s, h1, h2, h => by
  have e : c = d := by
   rcases List.mem_cons.1 ((h c).1 (by simp)) with e | e
   ·exact e
   ·rcases List.mem_cons.1 ((h d).2 (by simp)) with e' | e'
    ·exact e'.symm
    ·have a := (asc_mem h1.2.2 d e').1
     have b := (asc_mem h2.2.2 c e).1
     omega
  subst e
  rw [asc_ext h1.2.2 h2.2.2 (fun v => ?_)]
  constructor
  ·intro hv
   have := (asc_mem h1.2.2 v hv).1
   rcases List.mem_cons.1 ((h v).1 (List.mem_cons_of_mem _ hv)) with e | e
   ·omega
   ·exact e
  ·intro hv
   have := (asc_mem h2.2.2 v hv).1
   rcases List.mem_cons.1 ((h v).2 (List.mem_cons_of_mem _ hv)) with e | e
   ·omega
   ·exact e
/-- The value from which on kid j is taken. -/
def startAt (lo : Int) (l : List Int) (j : Nat) : Int := if j = 0 then lo else l.getD (j - 1) 0
theorem nx_start {hi : Int} : ∀ {lo : Int} {l : List Int} {j : Nat}, ascFrom lo hi l → j ≤ l.length → nx l (startAt lo l j) = j
 | lo, l, 0, h, _ => by simp [startAt, nx_low h (Int.le_refl _)]
 | lo, [], j + 1, h, hj => by simp at hj
 | lo, c :: r, j + 1, h, hj => by
  have hj' : j ≤ r.length := by simpa using hj
  have := nx_start h.2.2 hj'
  have hc : c ≤ startAt c r j := by
   unfold startAt
   split
   ·exact Int.le_refl _
   ·have hlt : j - 1 < r.length := by omega
    rw [List.getD_eq_getElem?_getD, List.getElem?_eq_getElem hlt]
    have := (asc_mem h.2.2 _ (List.getElem_mem hlt)).1
    exact Int.le_of_lt this
  have e : startAt lo (c :: r) (j + 1) = startAt c r j := by
   unfold startAt
   cases j with
   | zero => simp
   | succ j => simp
  rw [e]
  unfold nx
  rw [if_neg (by omega), this]
theorem start_rng {lo hi : Int} {l : List Int} {j : Nat} (h : ascFrom lo hi l) (hl : lo ≤ hi) (hj : j ≤ l.length) : lo ≤ startAt lo l j ∧ startAt lo l j ≤ hi := by
 unfold startAt
 split
 ·exact ⟨Int.le_refl _, hl⟩
 ·have hlt : j - 1 < l.length := by omega
  rw [List.getD_eq_getElem?_getD, List.getElem?_eq_getElem hlt]
  have := asc_mem h _ (List.getElem_mem hlt)
  exact ⟨Int.le_of_lt this.1, this.2⟩
/-- What a node says of a case. -/
def sem (g : List NodeD) : Nat → Int → List Int → Bool
 | 0, _, _ => false
 | k + 1, i, c => if (nAt g i).kids = [] then (nAt g i).leaf else sem g k ((nAt g i).kids.getD (nx (nAt g i).cuts (c.getD (nAt g i).fact.toNat 0)) 0) c
def rank (ds : List FactD) (g : List NodeD) (i : Int) : Nat := if (nAt g i).kids = [] then 0 else ds.length - (nAt g i).fact.toNat
def S (ds : List FactD) (g : List NodeD) (i : Int) (c : List Int) : Bool := sem g (ds.length + 1) i c
section good
variable {ds : List FactD} {g : List NodeD}
theorem Good.inner (h : Good ds g) {i : Int} (hi : Rng g i) (hk : (nAt g i).kids ≠ []) : Inner ds g (nAt g i) := by
 rcases h.proper _ (nAt_mem hi) with h | h
 ·exact absurd h.1 hk
 ·exact h
theorem Inner.kid_rng {n : NodeD} (h : Inner ds g n) (v : Int) : n.kids.getD (nx n.cuts v) 0 ∈ n.kids := by
 have h1 := nx_le n.cuts v
 have h2 := h.len
 have hlt : nx n.cuts v < n.kids.length := by omega
 rw [List.getD_eq_getElem?_getD, List.getElem?_eq_getElem hlt]
 exact List.getElem_mem hlt
theorem rank_le (i : Int) : rank ds g i ≤ ds.length := by unfold rank; split <;> omega
theorem Good.rank_kid (h : Good ds g) {i : Int} (hi : Rng g i) {k : Int} (hk : k ∈ (nAt g i).kids) : Rng g k ∧ rank ds g k < rank ds g i := by
 have hne : (nAt g i).kids ≠ [] := by intro e; rw [e] at hk; simp at hk
 have I := h.inner hi hne
 refine ⟨I.rng k hk, ?_⟩
 have u := I.up k hk
 have f0 := I.f0
 have f1 := I.f1
 unfold rank
 rw [if_neg hne]
 split
 ·omega
 ·rename_i hkk
  have := u hkk
  have I2 := h.inner (I.rng k hk) hkk
  have := I2.f1
  omega
theorem Good.sem_fuel (h : Good ds g) : ∀ (k k' : Nat) (i : Int) (c : List Int), Rng g i → rank ds g i < k → rank ds g i < k' → sem g k i c = sem g k' i c
 | 0, _, _, _, _, h1, _ => by omega
 | _ + 1, 0, _, _, _, _, h2 => by omega
 | k + 1, k' + 1, i, c, hi, h1, h2 => by
  unfold sem
  split
  ·rfl
  ·rename_i hne
   have hm := (h.inner hi hne).kid_rng (c.getD (nAt g i).fact.toNat 0)
   have := h.rank_kid hi hm
   exact h.sem_fuel k k' _ c this.1 (by omega) (by omega)
theorem Good.S_leaf (_h : Good ds g) {i : Int} (hk : (nAt g i).kids = []) (c : List Int) : S ds g i c = (nAt g i).leaf := by
 unfold S sem; rw [if_pos hk]
theorem Good.S_inner (h : Good ds g) {i : Int} (hi : Rng g i) (hk : (nAt g i).kids ≠ []) (c : List Int) :
  S ds g i c = S ds g ((nAt g i).kids.getD (nx (nAt g i).cuts (c.getD (nAt g i).fact.toNat 0)) 0) c := by
 have hm := (h.inner hi hk).kid_rng (c.getD (nAt g i).fact.toNat 0)
 have := h.rank_kid hi hm
 have hr := rank_le (ds := ds) (g := g) i
 conv => lhs; unfold S sem
 rw [if_neg hk]
 exact h.sem_fuel _ _ _ c this.1 (by omega) (by omega)
/-- A node looks only at the facts from its own on. -/
theorem Good.S_indep (h : Good ds g) : ∀ (r : Nat) (i : Int), rank ds g i ≤ r → Rng g i → ∀ (lo : Nat) (c c' : List Int), ((nAt g i).kids ≠ [] → (lo : Int) ≤ (nAt g i).fact) → (∀ j, lo ≤ j → c.getD j 0 = c'.getD j 0) → S ds g i c = S ds g i c'
 | r, i, hr, hi, lo, c, c', hl, hc => by
  by_cases hk : (nAt g i).kids = []
  ·rw [h.S_leaf hk, h.S_leaf hk]
  ·have I := h.inner hi hk
   have hl' := hl hk
   rw [h.S_inner hi hk, h.S_inner hi hk c', hc (nAt g i).fact.toNat (by omega)]
   have hm := I.kid_rng (c'.getD (nAt g i).fact.toNat 0)
   have hrk := h.rank_kid hi hm
   cases r with
   | zero => omega
   | succ r =>
    refine h.S_indep r _ (by omega) hrk.1 lo c c' (fun hkk => ?_) hc
    have := I.up _ hm hkk
    omega
end good
/-- The cases that fit. -/
def Fit (ds : List FactD) (c : List Int) : Prop := c.length = ds.length ∧ ∀ j, j < ds.length → (ds.getD j noFact).lo ≤ c.getD j 0 ∧ c.getD j 0 ≤ (ds.getD j noFact).hi
def LoHi (ds : List FactD) : Prop := ∀ j, j < ds.length → (ds.getD j noFact).lo ≤ (ds.getD j noFact).hi
theorem getD_set (l : List Int) (i j : Nat) (v : Int) : (l.set i v).getD j 0 = if i = j ∧ j < l.length then v else l.getD j 0 := by
 rw [List.getD_eq_getElem?_getD, List.getElem?_set, List.getD_eq_getElem?_getD]
 by_cases h : i = j
 ·subst h
  by_cases h2 : i < l.length
  ·rw [if_pos rfl, if_pos h2, if_pos ⟨rfl, h2⟩]; rfl
  ·rw [if_pos rfl, if_neg h2, if_neg (fun e => h2 e.2), List.getElem?_eq_none (by omega)]
 ·rw [if_neg h, if_neg (fun e => h e.1)]
theorem Fit.set_ {ds : List FactD} {c : List Int} (h : Fit ds c) {j : Nat} {v : Int} (h1 : (ds.getD j noFact).lo ≤ v) (h2 : v ≤ (ds.getD j noFact).hi) : Fit ds (c.set j v) := by
 refine ⟨by simp [h.1], fun i hi => ?_⟩
 rw [getD_set]
 split
 ·rename_i e; rw [← e.1]; exact ⟨h1, h2⟩
 ·exact h.2 i hi
theorem LoHi.least {ds : List FactD} (h : LoHi ds) : Fit ds (ds.map FactD.lo) := by
 refine ⟨by simp, fun j hj => ?_⟩
 have e : (ds.map FactD.lo).getD j 0 = (ds.getD j noFact).lo := by
  simp [List.getD_eq_getElem?_getD, List.getElem?_eq_getElem hj]
 rw [e]
 exact ⟨Int.le_refl _, h j hj⟩
def EqS (ds : List FactD) (g1 g2 : List NodeD) (i1 i2 : Int) : Prop := ∀ c, Fit ds c → S ds g1 i1 c = S ds g2 i2 c
/-- Below a rank, what a node says determines it. -/
def Uniq (ds : List FactD) (g : List NodeD) (r : Nat) : Prop := ∀ a b, Rng g a → Rng g b → rank ds g a < r → rank ds g b < r → EqS ds g g a b → a = b
section canon
variable {ds : List FactD} {g g1 g2 : List NodeD}
theorem Good.S_kid (h : Good ds g) {i : Int} (hi : Rng g i) (hk : (nAt g i).kids ≠ []) {c : List Int} (hc : Fit ds c) {v : Int} :
  S ds g i (c.set (nAt g i).fact.toNat v) = S ds g ((nAt g i).kids.getD (nx (nAt g i).cuts v) 0) c := by
 have I := h.inner hi hk
 have f0 := I.f0
 have f1 := I.f1
 have hlt : (nAt g i).fact.toNat < c.length := by rw [hc.1]; omega
 rw [h.S_inner hi hk, getD_set, if_pos ⟨rfl, hlt⟩]
 have hm := I.kid_rng v
 have hrk := h.rank_kid hi hm
 refine h.S_indep _ _ (Nat.le_refl _) hrk.1 ((nAt g i).fact.toNat + 1) _ _ (fun hkk => ?_) (fun j hj => ?_)
 ·have := I.up _ hm hkk
  omega
 ·rw [getD_set, if_neg (by omega)]
theorem Inner.kid_mem {n : NodeD} (h : Inner ds g n) {j : Nat} (hj : j ≤ n.cuts.length) : n.kids.getD j 0 ∈ n.kids := by
 have h2 := h.len
 have hlt : j < n.kids.length := by omega
 rw [List.getD_eq_getElem?_getD, List.getElem?_eq_getElem hlt]
 exact List.getElem_mem hlt
theorem Inner.fact_rng {n : NodeD} (h : Inner ds g n) : n.fact.toNat < ds.length := by have := h.f0; have := h.f1; omega
theorem Good.start_fit (h : Good ds g) (hl : LoHi ds) {i : Int} (hi : Rng g i) (hk : (nAt g i).kids ≠ []) {j : Nat} (hj : j ≤ (nAt g i).cuts.length) :
  (ds.getD (nAt g i).fact.toNat noFact).lo ≤ startAt (fAt ds (nAt g i).fact).lo (nAt g i).cuts j ∧ startAt (fAt ds (nAt g i).fact).lo (nAt g i).cuts j ≤ (ds.getD (nAt g i).fact.toNat noFact).hi := by
 have I := h.inner hi hk
 exact start_rng I.asc (hl _ I.fact_rng) hj
/-- An inner node depends on its own fact. -/
theorem Good.depends (h : Good ds g) (hl : LoHi ds) {r : Nat} (A : Uniq ds g r) {i : Int} (hi : Rng g i) (hk : (nAt g i).kids ≠ []) (hr : rank ds g i ≤ r)
  (hin : ∀ c v, Fit ds c → Fit ds (c.set (nAt g i).fact.toNat v) → S ds g i (c.set (nAt g i).fact.toNat v) = S ds g i c) : False := by
 have I := h.inner hi hk
 have hc1 : 1 ≤ (nAt g i).cuts.length := by have := I.cuts; cases hc : (nAt g i).cuts with | nil => exact absurd hc this | cons => simp
 have hd := I.diff 0 (by have := I.len; omega)
 have m0 := I.kid_mem (j := 0) (by omega)
 have m1 := I.kid_mem (j := 1) hc1
 have r0 := h.rank_kid hi m0
 have r1 := h.rank_kid hi m1
 simp only [Nat.zero_add] at hd
 refine hd (A _ _ r0.1 r1.1 (by omega) (by omega) fun c hc => ?_)
 have s0 := h.start_fit hl hi hk (j := 0) (by omega)
 have s1 := h.start_fit hl hi hk (j := 1) hc1
 have e0 := h.S_kid hi hk hc (v := startAt (fAt ds (nAt g i).fact).lo (nAt g i).cuts 0)
 have e1 := h.S_kid hi hk hc (v := startAt (fAt ds (nAt g i).fact).lo (nAt g i).cuts 1)
 rw [nx_start I.asc (by omega)] at e0
 rw [nx_start I.asc hc1] at e1
 rw [← e0, ← e1, hin c _ hc (hc.set_ s0.1 s0.2), hin c _ hc (hc.set_ s1.1 s1.2)]
theorem Good.indep_set (h : Good ds g) {i : Int} (hi : Rng g i) {f : Int} (hf0 : 0 ≤ f) (hf : (nAt g i).kids ≠ [] → f < (nAt g i).fact) (c : List Int) (v : Int) : S ds g i (c.set f.toNat v) = S ds g i c := by
 refine h.S_indep _ _ (Nat.le_refl _) hi (f.toNat + 1) _ _ (fun hkk => ?_) (fun j hj => ?_)
 ·have := hf hkk
  omega
 ·rw [getD_set, if_neg (by omega)]
structure Alike (ds : List FactD) (g1 g2 : List NodeD) (i1 i2 : Int) : Prop where
 leaf : (nAt g1 i1).leaf = (nAt g2 i2).leaf
 fact : (nAt g1 i1).fact = (nAt g2 i2).fact
 cuts : (nAt g1 i1).cuts = (nAt g2 i2).cuts
 len : (nAt g1 i1).kids.length = (nAt g2 i2).kids.length
 kids : ∀ j, j < (nAt g1 i1).kids.length → EqS ds g1 g2 ((nAt g1 i1).kids.getD j 0) ((nAt g2 i2).kids.getD j 0)
theorem Good.cut_iff (h : Good ds g) (_hl : LoHi ds) {r : Nat} (A : Uniq ds g r) {i : Int} (hi : Rng g i) (hk : (nAt g i).kids ≠ []) (hr : rank ds g i ≤ r) {v : Int}
  (_hv0 : (fAt ds (nAt g i).fact).lo < v) (_hv1 : v ≤ (fAt ds (nAt g i).fact).hi) :
  v ∈ (nAt g i).cuts ↔ ¬ ∀ c, Fit ds c → S ds g i (c.set (nAt g i).fact.toNat (v - 1)) = S ds g i (c.set (nAt g i).fact.toNat v) := by
 have I := h.inner hi hk
 constructor
 ·intro hm hall
  have e := nx_mem I.asc hm
  have hle := nx_le (nAt g i).cuts v
  have hlen := I.len
  have hd := I.diff (nx (nAt g i).cuts (v - 1)) (by omega)
  have m0 := I.kid_rng (v - 1)
  have m1 := I.kid_rng v
  have r0 := h.rank_kid hi m0
  have r1 := h.rank_kid hi m1
  rw [← e] at hd
  refine hd (A _ _ r0.1 r1.1 (by omega) (by omega) fun c hc => ?_)
  rw [← h.S_kid hi hk hc, ← h.S_kid hi hk hc]
  exact hall c hc
 ·intro hn
  by_cases hm : v ∈ (nAt g i).cuts
  ·exact hm
  ·exact absurd (fun c hc => by rw [h.S_kid hi hk hc, h.S_kid hi hk hc, nx_not hm]) hn
theorem alike_of_eq (hl : LoHi ds) (h1 : Good ds g1) (h2 : Good ds g2) {r : Nat} (A1 : Uniq ds g1 r) (A2 : Uniq ds g2 r) {i1 i2 : Int} (hi1 : Rng g1 i1) (hi2 : Rng g2 i2)
  (hr1 : rank ds g1 i1 ≤ r) (hr2 : rank ds g2 i2 ≤ r) (he : EqS ds g1 g2 i1 i2) : Alike ds g1 g2 i1 i2 := by
 by_cases hk1 : (nAt g1 i1).kids = []
 ·by_cases hk2 : (nAt g2 i2).kids = []
  ·rcases h1.proper _ (nAt_mem hi1) with ⟨_, a1, b1⟩ | h
   ·rcases h2.proper _ (nAt_mem hi2) with ⟨_, a2, b2⟩ | h
    ·have := he _ hl.least
     rw [h1.S_leaf hk1, h2.S_leaf hk2] at this
     exact ⟨this, by rw [a1, a2], by rw [b1, b2], by rw [hk1, hk2], fun j hj => by rw [hk1] at hj; simp at hj⟩
    ·exact absurd hk2 h.ne
   ·exact absurd hk1 h.ne
  ·exfalso
   have I := h2.inner hi2 hk2
   refine h2.depends hl A2 hi2 hk2 hr2 fun c v hc hc' => ?_
   rw [← he _ hc, ← he _ hc']
   exact h1.indep_set hi1 I.f0 (fun h => absurd hk1 h) c v
 ·have I1 := h1.inner hi1 hk1
  by_cases hk2 : (nAt g2 i2).kids = []
  ·exfalso
   refine h1.depends hl A1 hi1 hk1 hr1 fun c v hc hc' => ?_
   rw [he _ hc, he _ hc']
   exact h2.indep_set hi2 I1.f0 (fun h => absurd hk2 h) c v
  ·have I2 := h2.inner hi2 hk2
   have hf : (nAt g1 i1).fact = (nAt g2 i2).fact := by
    rcases Int.lt_trichotomy (nAt g1 i1).fact (nAt g2 i2).fact with hlt | e | hgt
    ·exfalso
     refine h1.depends hl A1 hi1 hk1 hr1 fun c v hc hc' => ?_
     rw [he _ hc, he _ hc']
     exact h2.indep_set hi2 I1.f0 (fun _ => hlt) c v
    ·exact e
    ·exfalso
     refine h2.depends hl A2 hi2 hk2 hr2 fun c v hc hc' => ?_
     rw [← he _ hc, ← he _ hc']
     exact h1.indep_set hi1 I2.f0 (fun _ => hgt) c v
   have hval : ∀ c v, Fit ds c → (fAt ds (nAt g1 i1).fact).lo ≤ v → v ≤ (fAt ds (nAt g1 i1).fact).hi → S ds g1 i1 (c.set (nAt g1 i1).fact.toNat v) = S ds g2 i2 (c.set (nAt g2 i2).fact.toNat v) := by
    intro c v hc a b
    rw [← hf]
    exact he _ (hc.set_ a b)
   have hcuts : (nAt g1 i1).cuts = (nAt g2 i2).cuts := by
    have a1 := I1.asc
    have a2 := I2.asc
    rw [← hf] at a2
    refine asc_ext a1 a2 fun v => ?_
    by_cases hv : (fAt ds (nAt g1 i1).fact).lo < v ∧ v ≤ (fAt ds (nAt g1 i1).fact).hi
    ·rw [h1.cut_iff hl A1 hi1 hk1 hr1 hv.1 hv.2, h2.cut_iff hl A2 hi2 hk2 hr2 (by rw [← hf]; exact hv.1) (by rw [← hf]; exact hv.2)]
     refine not_congr ⟨fun h c hc => ?_, fun h c hc => ?_⟩
     ·rw [← hval c _ hc (by omega) (by omega), ← hval c _ hc (by omega) (by omega)]; exact h c hc
     ·rw [hval c _ hc (by omega) (by omega), hval c _ hc (by omega) (by omega)]; exact h c hc
    ·exact ⟨fun h => absurd (asc_mem a1 v h) hv, fun h => absurd (asc_mem a2 v h) hv⟩
   refine ⟨by rw [I1.leaf, I2.leaf], hf, hcuts, by rw [I1.len, I2.len, hcuts], fun j hj c hc => ?_⟩
   have hj1 : j ≤ (nAt g1 i1).cuts.length := by have := I1.len; omega
   have hj2 : j ≤ (nAt g2 i2).cuts.length := by rw [← hcuts]; exact hj1
   have s := h1.start_fit hl hi1 hk1 hj1
   have e1 := h1.S_kid hi1 hk1 hc (v := startAt (fAt ds (nAt g1 i1).fact).lo (nAt g1 i1).cuts j)
   have e2 := h2.S_kid hi2 hk2 hc (v := startAt (fAt ds (nAt g1 i1).fact).lo (nAt g1 i1).cuts j)
   have e3 := hval c _ hc s.1 s.2
   rw [nx_start I1.asc hj1] at e1
   have a2 := I2.asc
   rw [← hf] at a2
   rw [show nx (nAt g2 i2).cuts (startAt (fAt ds (nAt g1 i1).fact).lo (nAt g1 i1).cuts j) = j by rw [hcuts]; exact nx_start a2 hj2] at e2
   rw [← e1, ← e2, e3]
theorem NodeD.ext' {a b : NodeD} (h1 : a.leaf = b.leaf) (h2 : a.fact = b.fact) (h3 : a.cuts = b.cuts) (h4 : a.kids = b.kids) : a = b := by
 cases a; cases b; simp at h1 h2 h3 h4; subst h1 h2 h3 h4; rfl
theorem list_ext_getD {l m : List Int} (h : l.length = m.length) (hj : ∀ j, j < l.length → l.getD j 0 = m.getD j 0) : l = m := by
 apply List.ext_getElem h
 intro i h1 h2
 have := hj i h1
 simpa [List.getD_eq_getElem?_getD, List.getElem?_eq_getElem h1, List.getElem?_eq_getElem h2] using this
theorem mem_getD {l : List Int} {j : Nat} (hj : j < l.length) : l.getD j 0 ∈ l := by
 rw [List.getD_eq_getElem?_getD, List.getElem?_eq_getElem hj]
 exact List.getElem_mem hj
theorem Good.uniq_all (hl : LoHi ds) (h : Good ds g) : ∀ r, Uniq ds g r
 | 0 => fun _ _ _ _ h1 _ _ => by omega
 | r + 1 => fun a b ha hb hra hrb he => by
  have A := Good.uniq_all hl h r
  have K := alike_of_eq hl h h A A ha hb (by omega) (by omega) he
  refine nodup_at h.nodup ha hb (NodeD.ext' K.leaf K.fact K.cuts (list_ext_getD K.len fun j hj => ?_))
  have r1 := h.rank_kid ha (mem_getD hj)
  have r2 := h.rank_kid hb (mem_getD (K.len ▸ hj))
  exact A _ _ r1.1 r2.1 (by omega) (by omega) (K.kids j hj)
/-- In a good table what a node says determines it. -/
theorem Good.uniq (hl : LoHi ds) (h : Good ds g) {a b : Int} (ha : Rng g a) (hb : Rng g b) (he : EqS ds g g a b) : a = b :=
 h.uniq_all hl (ds.length + 1) a b ha hb (by have := rank_le (ds := ds) (g := g) a; omega) (by have := rank_le (ds := ds) (g := g) b; omega) he
theorem Good.alike (hl : LoHi ds) (h1 : Good ds g1) (h2 : Good ds g2) {a b : Int} (ha : Rng g1 a) (hb : Rng g2 b) (he : EqS ds g1 g2 a b) : Alike ds g1 g2 a b :=
 alike_of_eq hl h1 h2 (h1.uniq_all hl ds.length) (h2.uniq_all hl ds.length) ha hb (rank_le _) (rank_le _) he
end canon
end Go.Proofs.YtcigjmlileckhaaGreatDoor
/- Plain: the order in which nodes are visited, and renumbering: it depends only on what the root says. No program in sight. -/
namespace Go.Proofs.YtcigjmlileckhaaGreatDoor
open Go.RowKit
def visitS (g : List NodeD) : Nat → Int → List Int → List Int
 | 0, _, o => o
 | k + 1, i, o => if i ∈ o then o else (nAt g i).kids.foldl (fun o x => visitS g k x o) (o ++ [i])
def orderS (ds : List FactD) (g : List NodeD) (i : Int) : List Int := visitS g (ds.length + 1) i []
def placeS (o : List Int) (k : Int) : Int := if k ∈ o then (o.idxOf k : Nat) else 0
def renum (g : List NodeD) (o : List Int) (i : Int) : NodeD := ⟨(nAt g i).leaf, (nAt g i).fact, (nAt g i).cuts, (nAt g i).kids.map (placeS o)⟩
def canonS (ds : List FactD) (g : List NodeD) (i : Int) : List NodeD := (orderS ds g i).map (renum g (orderS ds g i))
section visit
variable {ds : List FactD} {g g1 g2 : List NodeD}
/-- What a visit does to the order. -/
structure Visit (g : List NodeD) (o o' : List Int) : Prop where
 pre : ∃ t, o' = o ++ t
 nodup : o'.Nodup
 rng : ∀ x ∈ o', Rng g x
 kids : ∀ x ∈ o', x ∉ o → ∀ y ∈ (nAt g x).kids, y ∈ o'
theorem Visit.sub {o o' : List Int} (h : Visit g o o') {x : Int} (hx : x ∈ o) : x ∈ o' := by
 obtain ⟨t, rfl⟩ := h.pre
 exact List.mem_append_left _ hx
theorem Visit.trans {o o' o'' : List Int} (h : Visit g o o') (k : Visit g o' o'') : Visit g o o'' := by
 refine ⟨?_, k.nodup, k.rng, fun x hx hxo y hy => ?_⟩
 ·obtain ⟨t, rfl⟩ := h.pre
  obtain ⟨t', rfl⟩ := k.pre
  exact ⟨t ++ t', by simp⟩
 ·by_cases h' : x ∈ o'
  ·exact k.sub (h.kids x h' hxo y hy)
  ·exact k.kids x hx h' y hy
theorem visit_spec (h : Good ds g) : ∀ (k : Nat) (i : Int) (o : List Int), Rng g i → rank ds g i < k → (∀ x ∈ o, Rng g x) → o.Nodup → Visit g o (visitS g k i o) ∧ i ∈ visitS g k i o
 | 0, _, _, _, hr, _, _ => by omega
 | k + 1, i, o, hi, hr, ho, hn => by
  unfold visitS
  by_cases hm : i ∈ o
  ·rw [if_pos hm]
   exact ⟨⟨⟨[], by simp⟩, hn, ho, fun x hx hxo => absurd hx hxo⟩, hm⟩
  ·rw [if_neg hm]
   have fold : ∀ (l o : List Int), (∀ x ∈ l, Rng g x ∧ rank ds g x < k) → (∀ x ∈ o, Rng g x) → o.Nodup →
     Visit g o (l.foldl (fun o x => visitS g k x o) o) ∧ ∀ x ∈ l, x ∈ l.foldl (fun o x => visitS g k x o) o := by
    intro l
    induction l with
    | nil => intro o _ ho hn; exact ⟨⟨⟨[], by simp⟩, hn, ho, fun x hx hxo => absurd hx hxo⟩, by simp⟩
    | cons a l ih =>
     intro o hl ho hn
     obtain ⟨v1, m1⟩ := visit_spec h k a o (hl a (by simp)).1 (hl a (by simp)).2 ho hn
     obtain ⟨v2, m2⟩ := ih (visitS g k a o) (fun x hx => hl x (List.mem_cons_of_mem _ hx)) v1.rng v1.nodup
     refine ⟨v1.trans v2, fun x hx => ?_⟩
     rcases List.mem_cons.1 hx with rfl | hx
     ·exact v2.sub m1
     ·exact m2 x hx
   have ho' : ∀ x ∈ o ++ [i], Rng g x := fun x hx => by
    rcases List.mem_append.1 hx with hx | hx
    ·exact ho x hx
    ·simp at hx; rw [hx]; exact hi
   have hn' : (o ++ [i]).Nodup := by
    rw [List.nodup_append]
    exact ⟨hn, by simp, fun a ha b hb e => by simp at hb; subst hb; exact hm (e ▸ ha)⟩
   obtain ⟨v, m⟩ := fold (nAt g i).kids (o ++ [i]) (fun x hx => by have := h.rank_kid hi hx; exact ⟨this.1, by omega⟩) ho' hn'
   refine ⟨⟨?_, v.nodup, v.rng, fun x hx hxo y hy => ?_⟩, v.sub (by simp)⟩
   ·obtain ⟨t, e⟩ := v.pre
    exact ⟨i :: t, by rw [e]; simp⟩
   ·by_cases e : x = i
    ·subst e; exact m y hy
    ·exact v.kids x hx (by simp [hxo, e]) y hy
theorem visit_head (_h : Good ds g) (k : Nat) (i : Int) : ∃ t, visitS g (k + 1) i [] = i :: t := by
 have fold : ∀ (l o : List Int), ∃ t, l.foldl (fun o x => visitS g k x o) o = o ++ t := by
  have pre : ∀ (k : Nat) (i : Int) (o : List Int), ∃ t, visitS g k i o = o ++ t := by
   intro k
   induction k with
   | zero => intro i o; exact ⟨[], by simp [visitS]⟩
   | succ k ih =>
    intro i o
    unfold visitS
    split
    ·exact ⟨[], by simp⟩
    ·have : ∀ (l o : List Int), ∃ t, l.foldl (fun o x => visitS g k x o) o = o ++ t := by
      intro l
      induction l with
      | nil => intro o; exact ⟨[], by simp⟩
      | cons a l ih' =>
       intro o
       obtain ⟨t, e⟩ := ih a o
       obtain ⟨t', e'⟩ := ih' (visitS g k a o)
       exact ⟨t ++ t', by rw [List.foldl_cons, e', e]; simp⟩
     obtain ⟨t, e⟩ := this (nAt g i).kids (o ++ [i])
     exact ⟨i :: t, by rw [e]; simp⟩
  intro l
  induction l with
  | nil => intro o; exact ⟨[], by simp⟩
  | cons a l ih =>
   intro o
   obtain ⟨t, e⟩ := pre k a o
   obtain ⟨t', e'⟩ := ih (visitS g k a o)
   exact ⟨t ++ t', by rw [List.foldl_cons, e', e]; simp⟩
 unfold visitS
 rw [if_neg (by simp)]
 obtain ⟨t, e⟩ := fold (nAt g i).kids ([] ++ [i])
 exact ⟨t, by rw [e]; rfl⟩
structure Order (ds : List FactD) (g : List NodeD) (i : Int) (o : List Int) : Prop where
 head : ∃ t, o = i :: t
 nodup : o.Nodup
 rng : ∀ x ∈ o, Rng g x
 kids : ∀ x ∈ o, ∀ y ∈ (nAt g x).kids, y ∈ o
theorem order_spec (h : Good ds g) {i : Int} (hi : Rng g i) : Order ds g i (orderS ds g i) := by
 have hr := rank_le (ds := ds) (g := g) i
 obtain ⟨v, _⟩ := visit_spec h (ds.length + 1) i [] hi (by omega) (by simp) (by simp)
 exact ⟨visit_head h ds.length i, v.nodup, v.rng, fun x hx => v.kids x hx (by simp)⟩
theorem nodup_length_le : ∀ (n : Nat) (l : List Int), l.Nodup → (∀ x ∈ l, 0 ≤ x ∧ x < n) → l.length ≤ n
 | 0, l, _, h => by
  cases l with
  | nil => simp
  | cons a r => have := h a (by simp); omega
 | n + 1, l, hn, h => by
  have h1 : (l.erase (n : Int)).length ≤ n := nodup_length_le n _ (hn.erase _) (fun x hx => by
   have a := h x (List.mem_of_mem_erase hx)
   have b : x ≠ (n : Int) := fun e => by
    subst e
    have := (List.Nodup.mem_erase_iff hn).1 hx
    exact this.1 rfl
   omega)
  have h2 := List.length_erase (a := (n : Int)) (l := l)
  split at h2 <;> omega
theorem Order.length_le {i : Int} {o : List Int} (h : Order ds g i o) : o.length ≤ g.length := nodup_length_le _ _ h.nodup h.rng
inductive R2 (R : Int → Int → Prop) : List Int → List Int → Prop where
 | nil : R2 R [] []
 | cons {a b : Int} {l m : List Int} : R a b → R2 R l m → R2 R (a :: l) (b :: m)
theorem R2.of_getD {R : Int → Int → Prop} : ∀ {l m : List Int}, l.length = m.length → (∀ j, j < l.length → R (l.getD j 0) (m.getD j 0)) → R2 R l m
 | [], [], _, _ => .nil
 | [], _ :: _, h, _ => by simp at h
 | _ :: _, [], h, _ => by simp at h
 | a :: l, b :: m, h, hj => .cons (by simpa using hj 0 (by simp)) (R2.of_getD (by simpa using h) fun j hlt => by simpa using hj (j + 1) (by simpa using hlt))
theorem R2.append {R : Int → Int → Prop} {l m l' m' : List Int} (h : R2 R l m) (h' : R2 R l' m') : R2 R (l ++ l') (m ++ m') := by
 induction h with
 | nil => exact h'
 | cons h _ ih => exact .cons h ih
theorem R2.mem {R : Int → Int → Prop} (hr : ∀ a a' b, R a b → R a' b → a = a') (hl : ∀ a b b', R a b → R a b' → b = b') {l m : List Int} (h : R2 R l m) {a b : Int} (hab : R a b) : a ∈ l ↔ b ∈ m := by
 induction h with
 | nil => simp
 | cons h _ ih =>
  rename_i x y l m _
  simp only [List.mem_cons, ih]
  refine or_congr ⟨fun e => ?_, fun e => ?_⟩ Iff.rfl
  ·subst e; exact hl _ _ _ hab h
  ·subst e; exact hr _ _ _ hab h
theorem R2.idx {R : Int → Int → Prop} (hr : ∀ a a' b, R a b → R a' b → a = a') (hl : ∀ a b b', R a b → R a b' → b = b') {l m : List Int} (h : R2 R l m) {a b : Int} (hab : R a b) : l.idxOf a = m.idxOf b := by
 induction h with
 | nil => rfl
 | cons h _ ih =>
  rename_i x y l m _
  rw [List.idxOf_cons, List.idxOf_cons, ih]
  have : (x == a) = (y == b) := by
   rw [Bool.eq_iff_iff, beq_iff_eq, beq_iff_eq]
   constructor
   ·intro e; subst e; exact hl _ _ _ h hab
   ·intro e; subst e; exact hr _ _ _ h hab
  rw [this]
theorem R2.map_eq {α : Type} {R : Int → Int → Prop} {f f' : Int → α} {l m : List Int} (h : R2 R l m) (hf : ∀ a b, R a b → f a = f' b) : l.map f = m.map f' := by
 induction h with
 | nil => rfl
 | cons h _ ih => rw [List.map_cons, List.map_cons, ih, hf _ _ h]
theorem visit_sim {R : Int → Int → Prop} (hr : ∀ a a' b, R a b → R a' b → a = a') (hl : ∀ a b b', R a b → R a b' → b = b') (hk : ∀ a b, R a b → R2 R (nAt g1 a).kids (nAt g2 b).kids) :
  ∀ (k : Nat) (a b : Int) (o1 o2 : List Int), R a b → R2 R o1 o2 → R2 R (visitS g1 k a o1) (visitS g2 k b o2)
 | 0, _, _, _, _, _, h => by simpa [visitS] using h
 | k + 1, a, b, o1, o2, hab, h => by
  unfold visitS
  have hm := R2.mem hr hl h hab
  by_cases h1 : a ∈ o1
  ·rw [if_pos h1, if_pos (hm.1 h1)]; exact h
  ·rw [if_neg h1, if_neg (fun h => h1 (hm.2 h))]
   have fold : ∀ {l m : List Int}, R2 R l m → ∀ o1 o2, R2 R o1 o2 → R2 R (l.foldl (fun o x => visitS g1 k x o) o1) (m.foldl (fun o x => visitS g2 k x o) o2) := by
    intro l m hlm
    induction hlm with
    | nil => intro o1 o2 ho; exact ho
    | cons h _ ih => intro o1 o2 ho; exact ih _ _ (visit_sim hr hl hk k _ _ _ _ h ho)
   exact fold (hk a b hab) _ _ (h.append (.cons hab .nil))
/-- The same meaning: the same renumbered table. -/
theorem canon_eq (hl : LoHi ds) (h1 : Good ds g1) (h2 : Good ds g2) {a b : Int} (ha : Rng g1 a) (hb : Rng g2 b) (he : EqS ds g1 g2 a b) : canonS ds g1 a = canonS ds g2 b := by
 let R : Int → Int → Prop := fun a b => Rng g1 a ∧ Rng g2 b ∧ EqS ds g1 g2 a b
 have hr : ∀ a a' b, R a b → R a' b → a = a' := fun a a' b h h' => h1.uniq hl h.1 h'.1 fun c hc => by rw [h.2.2 c hc, h'.2.2 c hc]
 have hll : ∀ a b b', R a b → R a b' → b = b' := fun a b b' h h' => h2.uniq hl h.2.1 h'.2.1 fun c hc => by rw [← h.2.2 c hc, ← h'.2.2 c hc]
 have hkk : ∀ a b, R a b → R2 R (nAt g1 a).kids (nAt g2 b).kids := fun a b h => by
  have K := Good.alike hl h1 h2 h.1 h.2.1 h.2.2
  exact R2.of_getD K.len fun j hj => ⟨(h1.rank_kid h.1 (mem_getD hj)).1, (h2.rank_kid h.2.1 (mem_getD (K.len ▸ hj))).1, K.kids j hj⟩
 have ho : R2 R (orderS ds g1 a) (orderS ds g2 b) := visit_sim hr hll hkk _ _ _ _ _ ⟨ha, hb, he⟩ .nil
 unfold canonS
 refine ho.map_eq fun x y hxy => ?_
 have K := Good.alike hl h1 h2 hxy.1 hxy.2.1 hxy.2.2
 unfold renum
 refine NodeD.ext' K.leaf K.fact K.cuts ?_
 refine (hkk x y hxy).map_eq fun u v huv => ?_
 unfold placeS
 by_cases hu : u ∈ orderS ds g1 a
 ·rw [if_pos hu, if_pos ((ho.mem hr hll huv).1 hu), ho.idx hr hll huv]
 ·rw [if_neg hu, if_neg (fun h => hu ((ho.mem hr hll huv).2 h))]
end visit
section renumber
variable {ds : List FactD} {g : List NodeD} {i : Int} {o : List Int}
theorem place_rng {k : Int} (hk : k ∈ o) : 0 ≤ placeS o k ∧ placeS o k < o.length := by
 unfold placeS
 rw [if_pos hk]
 have := List.idxOf_lt_length_of_mem hk
 omega
theorem place_inj {a b : Int} (ha : a ∈ o) (hb : b ∈ o) (h : placeS o a = placeS o b) : a = b := by
 unfold placeS at h
 rw [if_pos ha, if_pos hb] at h
 have h1 := List.getElem_idxOf (List.idxOf_lt_length_of_mem ha)
 have h2 := List.getElem_idxOf (List.idxOf_lt_length_of_mem hb)
 have e : o.idxOf a = o.idxOf b := by omega
 rw [← h1, ← h2]
 simp only [e]
theorem renum_at {f : Int → NodeD} {k : Int} (hk : k ∈ o) : nAt (o.map f) (placeS o k) = f k := by
 have hlt := List.idxOf_lt_length_of_mem hk
 unfold placeS
 rw [if_pos hk, nAt_nat (by simpa using hlt), List.getElem_map, List.getElem_idxOf hlt]
theorem renum_good (h : Good ds g) (ho : Order ds g i o) : Good ds (o.map (renum g o)) := by
 constructor
 ·intro n hn
  obtain ⟨x, hx, rfl⟩ := List.mem_map.1 hn
  rcases h.proper _ (nAt_mem (ho.rng x hx)) with hp | I
  ·left
   exact ⟨by simp [renum, hp.1], hp.2.1, hp.2.2⟩
  ·right
   have hkid := ho.kids x hx
   refine ⟨by simp [renum, I.ne], I.leaf, I.f0, I.f1, I.cuts, by simp [renum, I.len], I.asc, fun k hk => ?_, fun k hk => ?_, fun j hj => ?_⟩
   ·obtain ⟨y, hy, rfl⟩ := List.mem_map.1 hk
    have := place_rng (hkid y hy)
    exact ⟨this.1, by rw [List.length_map]; exact this.2⟩
   ·obtain ⟨y, hy, rfl⟩ := List.mem_map.1 hk
    rw [renum_at (hkid y hy)]
    intro hne
    exact I.up y hy (by intro e; simp [renum, e] at hne)
   ·have hj' : j + 1 < (nAt g x).kids.length := by simpa [renum] using hj
    have e : ∀ j, j < (nAt g x).kids.length → (renum g o x).kids.getD j 0 = placeS o ((nAt g x).kids.getD j 0) := fun j hj => by
     simp [renum, List.getD_eq_getElem?_getD, List.getElem?_eq_getElem hj]
    rw [e j (by omega), e (j + 1) hj']
    intro hh
    exact I.diff j hj' (place_inj (hkid _ (mem_getD (by omega))) (hkid _ (mem_getD hj')) hh)
 ·have hp : (o.map (renum g o)).Pairwise (· ≠ ·) := by
   rw [List.pairwise_map]
   refine List.Pairwise.imp_of_mem (R := (· ≠ ·)) (fun {a b} ha hb hne e => hne ?_) ho.nodup
   unfold renum at e
   injection e with e1 e2 e3 e4
   refine nodup_at h.nodup (ho.rng a ha) (ho.rng b hb) (NodeD.ext' e1 e2 e3 ?_)
   have hka := ho.kids a ha
   have hkb := ho.kids b hb
   have hlen : (nAt g a).kids.length = (nAt g b).kids.length := by have := congrArg List.length e4; simpa using this
   refine list_ext_getD hlen fun j hj => ?_
   refine place_inj (hka _ (mem_getD hj)) (hkb _ (mem_getD (hlen ▸ hj))) ?_
   have := congrArg (fun l => l.getD j 0) e4
   simpa [List.getD_eq_getElem?_getD, List.getElem?_eq_getElem hj, List.getElem?_eq_getElem (hlen ▸ hj)] using this
  exact hp
theorem renum_S (h : Good ds g) (ho : Order ds g i o) : ∀ (r : Nat) (x : Int), x ∈ o → rank ds g x ≤ r → ∀ c, S ds (o.map (renum g o)) (placeS o x) c = S ds g x c
 | r, x, hx, hr, c => by
  have h' := renum_good h ho
  have hi := ho.rng x hx
  have hat : nAt (o.map (renum g o)) (placeS o x) = renum g o x := renum_at hx
  have hp := place_rng hx
  have hi' : Rng (o.map (renum g o)) (placeS o x) := ⟨hp.1, by rw [List.length_map]; exact hp.2⟩
  by_cases hk : (nAt g x).kids = []
  ·rw [h.S_leaf hk, h'.S_leaf (by rw [hat]; simp [renum, hk]), hat]; rfl
  ·rw [h.S_inner hi hk, h'.S_inner hi' (by rw [hat]; simp [renum, hk]), hat]
   have I := h.inner hi hk
   have hm := I.kid_rng (c.getD (nAt g x).fact.toNat 0)
   have hrk := h.rank_kid hi hm
   have hlt : nx (nAt g x).cuts (c.getD (nAt g x).fact.toNat 0) < (nAt g x).kids.length := by have := nx_le (nAt g x).cuts (c.getD (nAt g x).fact.toNat 0); have := I.len; omega
   have e : (renum g o x).kids.getD (nx (renum g o x).cuts (c.getD (renum g o x).fact.toNat 0)) 0 = placeS o ((nAt g x).kids.getD (nx (nAt g x).cuts (c.getD (nAt g x).fact.toNat 0)) 0) := by
    show ((nAt g x).kids.map (placeS o)).getD (nx (nAt g x).cuts (c.getD (nAt g x).fact.toNat 0)) 0 = _
    generalize nx (nAt g x).cuts (c.getD (nAt g x).fact.toNat 0) = q at *
    simp [List.getD_eq_getElem?_getD, List.getElem?_eq_getElem hlt]
   rw [e]
   cases r with
   | zero => omega
   | succ r => exact renum_S h ho r _ (ho.kids x hx _ hm) (by omega) c
theorem place_head (ho : Order ds g i o) : placeS o i = 0 := by
 obtain ⟨t, rfl⟩ := ho.head
 unfold placeS
 rw [if_pos (by simp)]; simp
theorem canon_good (h : Good ds g) (hi : Rng g i) : Good ds (canonS ds g i) := renum_good h (order_spec h hi)
theorem canon_rng (h : Good ds g) (hi : Rng g i) : Rng (canonS ds g i) 0 := by
 obtain ⟨t, e⟩ := (order_spec h hi).head
 refine ⟨Int.le_refl _, ?_⟩
 unfold canonS; rw [List.length_map, e]; simp
theorem canon_S (h : Good ds g) (hi : Rng g i) (c : List Int) : S ds (canonS ds g i) 0 c = S ds g i c := by
 have ho := order_spec h hi
 have := renum_S h ho _ i (by obtain ⟨t, e⟩ := ho.head; rw [e]; simp) (Nat.le_refl _) c
 rw [place_head ho] at this
 exact this
theorem canon_again (hl : LoHi ds) (h : Good ds g) (hi : Rng g i) : canonS ds (canonS ds g i) 0 = canonS ds g i :=
 canon_eq hl (canon_good h hi) h (canon_rng h hi) hi fun c _ => canon_S h hi c
end renumber
end Go.Proofs.YtcigjmlileckhaaGreatDoor
/- Plain: a table that grows, and the node that asks a fact. No program in sight. -/
namespace Go.Proofs.YtcigjmlileckhaaGreatDoor
open Go.RowKit
def nodeS (all : List NodeD) (n : NodeD) : Int × List NodeD := if n ∈ all then ((all.idxOf n : Nat), all) else ((all.length : Nat), all ++ [n])
/-- Equal neighbours become one: the cuts and kids behind the first. -/
def mergeS : Int → List Int → List Int → List Int × List Int
 | last, s :: ss, k :: ks => if k = last then mergeS last ss ks else (s :: (mergeS k ss ks).1, k :: (mergeS k ss ks).2)
 | _, _, _ => ([], [])
def innerS (all : List NodeD) (i : Int) (starts kids : List Int) : Int × List NodeD :=
 if (mergeS (kids.getD 0 0) starts kids).2 = [] then (kids.getD 0 0, all)
 else nodeS all ⟨false, i, (mergeS (kids.getD 0 0) starts kids).1, kids.getD 0 0 :: (mergeS (kids.getD 0 0) starts kids).2⟩
section ext
variable {ds : List FactD} {g t : List NodeD}
theorem Rng.app {i : Int} (h : Rng g i) (t : List NodeD) : Rng (g ++ t) i := ⟨h.1, by have := h.2; simp; omega⟩
theorem nAt_app {i : Int} (h : Rng g i) (t : List NodeD) : nAt (g ++ t) i = nAt g i := by
 unfold nAt
 have h0 := h.1
 have h1 := h.2
 have : i.toNat < g.length := by omega
 rw [List.getD_eq_getElem?_getD, List.getD_eq_getElem?_getD, List.getElem?_append_left this]
theorem S_app (h : Good ds g) (h' : Good ds (g ++ t)) : ∀ (r : Nat) (i : Int), Rng g i → rank ds g i ≤ r → ∀ c, S ds (g ++ t) i c = S ds g i c
 | r, i, hi, hr, c => by
  by_cases hk : (nAt g i).kids = []
  ·rw [h.S_leaf hk, h'.S_leaf (by rw [nAt_app hi]; exact hk), nAt_app hi]
  ·have I := h.inner hi hk
   have hm := I.kid_rng (c.getD (nAt g i).fact.toNat 0)
   have hrk := h.rank_kid hi hm
   rw [h.S_inner hi hk, h'.S_inner (hi.app t) (by rw [nAt_app hi]; exact hk), nAt_app hi]
   cases r with
   | zero => omega
   | succ r => exact S_app h h' r _ hrk.1 (by omega) c
theorem S_app' (h : Good ds g) (h' : Good ds (g ++ t)) {i : Int} (hi : Rng g i) (c : List Int) : S ds (g ++ t) i c = S ds g i c := S_app h h' _ i hi (Nat.le_refl _) c
theorem Inner.app {n : NodeD} (h : Inner ds g n) (t : List NodeD) : Inner ds (g ++ t) n :=
 ⟨h.ne, h.leaf, h.f0, h.f1, h.cuts, h.len, h.asc, fun k hk => (h.rng k hk).app t, fun k hk => by rw [nAt_app (h.rng k hk)]; exact h.up k hk, h.diff⟩
theorem Proper.app {n : NodeD} (h : Proper ds g n) (t : List NodeD) : Proper ds (g ++ t) n := h.imp id (fun h => h.app t)
theorem Good.nil (ds : List FactD) : Good ds [] := ⟨fun _ h => absurd h (by simp), by simp⟩
/-- What making a node does. -/
structure Made (ds : List FactD) (g g' : List NodeD) (i : Int) : Prop where
 pre : ∃ t, g' = g ++ t
 good : Good ds g'
 rng : Rng g' i
theorem Made.S_old {g' : List NodeD} {i j : Int} (h : Made ds g g' i) (hg : Good ds g) (hj : Rng g j) (c : List Int) : S ds g' j c = S ds g j c := by
 obtain ⟨t, rfl⟩ := h.pre
 exact S_app' hg h.good hj c
theorem node_made (h : Good ds g) {n : NodeD} (hn : Proper ds g n) : Made ds g (nodeS g n).2 (nodeS g n).1 ∧ nAt (nodeS g n).2 (nodeS g n).1 = n := by
 unfold nodeS
 by_cases hm : n ∈ g
 ·rw [if_pos hm]
  have hlt := List.idxOf_lt_length_of_mem hm
  refine ⟨⟨⟨[], by simp⟩, h, ⟨by simp, by simpa using hlt⟩⟩, ?_⟩
  rw [nAt_nat hlt, List.getElem_idxOf hlt]
 ·rw [if_neg hm]
  have hr : Rng (g ++ [n]) (g.length : Nat) := ⟨by omega, by simp; omega⟩
  refine ⟨⟨⟨[n], rfl⟩, ⟨fun m hm' => ?_, ?_⟩, hr⟩, ?_⟩
  ·rcases List.mem_append.1 hm' with h' | h'
   ·exact (h.proper m h').app _
   ·simp at h'; rw [h']; exact hn.app _
  ·rw [List.nodup_append]
   exact ⟨h.nodup, by simp, fun a ha b hb e => by simp at hb; subst hb; exact hm (e ▸ ha)⟩
  ·simp only
   rw [nAt_nat (by simp)]; simp
end ext
theorem merge_len : ∀ (last : Int) (ss ks : List Int), (mergeS last ss ks).1.length = (mergeS last ss ks).2.length
 | last, s :: ss, k :: ks => by
  unfold mergeS
  split
  ·exact merge_len last ss ks
  ·simp [merge_len k ss ks]
 | _, [], _ => rfl
 | _, _ :: _, [] => rfl
theorem merge_asc : ∀ (last lo hi : Int) (ss ks : List Int), ascFrom lo hi ss → ascFrom lo hi (mergeS last ss ks).1
 | last, lo, hi, s :: ss, k :: ks, h => by
  unfold mergeS
  split
  ·exact merge_asc last lo hi ss ks (asc_mono h.2.2 (Int.le_of_lt h.1))
  ·exact ⟨h.1, h.2.1, merge_asc k s hi ss ks h.2.2⟩
 | _, _, _, [], _, _ => trivial
 | _, _, _, _ :: _, [], _ => trivial
theorem merge_mem : ∀ (last : Int) (ss ks : List Int), ∀ k ∈ (mergeS last ss ks).2, k ∈ ks
 | last, s :: ss, k :: ks, x, hx => by
  unfold mergeS at hx
  split at hx
  ·exact List.mem_cons_of_mem _ (merge_mem last ss ks x hx)
  ·rcases List.mem_cons.1 hx with rfl | hx
   ·simp
   ·exact List.mem_cons_of_mem _ (merge_mem k ss ks x hx)
 | _, [], _, _, h => absurd h (by simp [mergeS])
 | _, _ :: _, [], _, h => absurd h (by simp [mergeS])
theorem merge_diff : ∀ (last : Int) (ss ks : List Int) (j : Nat), j + 1 < (last :: (mergeS last ss ks).2).length → (last :: (mergeS last ss ks).2).getD j 0 ≠ (last :: (mergeS last ss ks).2).getD (j + 1) 0
 | last, s :: ss, k :: ks, j, hj => by
  unfold mergeS at hj ⊢
  split
  ·rename_i h
   rw [if_pos h] at hj
   exact merge_diff last ss ks j hj
  ·rename_i h
   rw [if_neg h] at hj
   cases j with
   | zero => simp; exact fun e => h e.symm
   | succ j =>
    have := merge_diff k ss ks j (by simpa using hj)
    simpa using this
 | _, [], _, j, hj => by simp [mergeS] at hj
 | _, _ :: _, [], j, hj => by simp [mergeS] at hj
theorem merge_pick : ∀ (last lo hi : Int) (ss ks : List Int) (v : Int), ss.length = ks.length → ascFrom lo hi ss →
  (last :: (mergeS last ss ks).2).getD (nx (mergeS last ss ks).1 v) 0 = (last :: ks).getD (nx ss v) 0
 | last, lo, hi, s :: ss, k :: ks, v, hl, h => by
  have hl' : ss.length = ks.length := by simpa using hl
  unfold mergeS
  by_cases hk : k = last
  ·rw [if_pos hk, merge_pick last s hi ss ks v hl' h.2.2]
   rw [show nx (s :: ss) v = if v < s then 0 else nx ss v + 1 from rfl]
   by_cases hv : v < s
   ·rw [if_pos hv, nx_low h.2.2 (v := v) (by omega)]; rfl
   ·rw [if_neg hv, hk, List.getD_cons_succ]
  ·rw [if_neg hk]
   simp only [nx]
   by_cases hv : v < s
   ·rw [if_pos hv, if_pos hv]; rfl
   ·rw [if_neg hv, if_neg hv, List.getD_cons_succ, List.getD_cons_succ]
    exact merge_pick k s hi ss ks v hl' h.2.2
 | _, _, _, [], [], _, _, _ => by simp [mergeS, nx]
 | _, _, _, [], _ :: _, _, h, _ => by simp at h
 | _, _, _, _ :: _, [], _, h, _ => by simp at h
theorem merge_first (k : Int) (s : Int) (ss ks : List Int) : mergeS k (s :: ss) (k :: ks) = mergeS k ss ks := by
 rw [mergeS, if_pos rfl]
/-- A node that asks fact i: what it says is what the kid for the fact's value says. -/
theorem inner_made {ds : List FactD} {g : List NodeD} (h : Good ds g) {i : Nat} (hi : i < ds.length) {rest : List Int} {k0 : Int} {ks : List Int} (hl : rest.length = ks.length)
  (ha : ascFrom (ds.getD i noFact).lo (ds.getD i noFact).hi rest) (hr : ∀ k ∈ k0 :: ks, Rng g k) (hu : ∀ k ∈ k0 :: ks, (nAt g k).kids ≠ [] → (i : Int) < (nAt g k).fact) :
  Made ds g (innerS g i ((ds.getD i noFact).lo :: rest) (k0 :: ks)).2 (innerS g i ((ds.getD i noFact).lo :: rest) (k0 :: ks)).1 ∧
  (∀ c, S ds (innerS g i ((ds.getD i noFact).lo :: rest) (k0 :: ks)).2 (innerS g i ((ds.getD i noFact).lo :: rest) (k0 :: ks)).1 c = S ds g ((k0 :: ks).getD (nx rest (c.getD i 0)) 0) c) ∧
  ((nAt (innerS g i ((ds.getD i noFact).lo :: rest) (k0 :: ks)).2 (innerS g i ((ds.getD i noFact).lo :: rest) (k0 :: ks)).1).kids ≠ [] →
   (i : Int) ≤ (nAt (innerS g i ((ds.getD i noFact).lo :: rest) (k0 :: ks)).2 (innerS g i ((ds.getD i noFact).lo :: rest) (k0 :: ks)).1).fact) := by
 unfold innerS
 simp only [List.getD_cons_zero, merge_first]
 have hp := fun v => merge_pick k0 _ _ rest ks v hl ha
 have hlen := merge_len k0 rest ks
 have hasc := merge_asc k0 _ _ rest ks ha
 have hmem := merge_mem k0 rest ks
 have hdiff := merge_diff k0 rest ks
 generalize mergeS k0 rest ks = m at *
 by_cases he : m.2 = []
 ·rw [if_pos he]
  refine ⟨⟨⟨[], by simp⟩, h, hr k0 (by simp)⟩, fun c => ?_, fun hk => Int.le_of_lt (hu k0 (by simp) hk)⟩
  have h1 : m.1 = [] := List.eq_nil_of_length_eq_zero (by rw [hlen, he]; rfl)
  rw [← hp, h1, he]; rfl
 ·rw [if_neg he]
  have hmem' : ∀ k ∈ k0 :: m.2, k ∈ k0 :: ks := fun k hk => by
   rcases List.mem_cons.1 hk with rfl | hk
   ·simp
   ·exact List.mem_cons_of_mem _ (hmem k hk)
  have I : Inner ds g ⟨false, i, m.1, k0 :: m.2⟩ := by
   refine ⟨by simp, rfl, by simp, by simpa using hi, fun e => he (List.eq_nil_of_length_eq_zero (by rw [← hlen]; simp at e; rw [e]; rfl)), by simp [hlen], ?_, fun k hk => hr k (hmem' k hk), fun k hk => hu k (hmem' k hk), hdiff⟩
   show ascFrom (fAt ds (i : Nat)).lo (fAt ds (i : Nat)).hi m.1
   unfold fAt
   rw [Int.toNat_natCast]; exact hasc
  obtain ⟨M, hat⟩ := node_made h (n := ⟨false, i, m.1, k0 :: m.2⟩) (Or.inr I)
  refine ⟨M, fun c => ?_, fun _ => ?_⟩
  ·rw [M.good.S_inner M.rng (by rw [hat]; simp), hat]
   simp only [Int.toNat_natCast]
   rw [hp]
   refine M.S_old h (hr _ ?_) c
   have hle := nx_le rest (c.getD i 0)
   exact mem_getD (by simp only [List.length_cons]; omega)
  ·rw [hat]; exact Int.le_refl _
end Go.Proofs.YtcigjmlileckhaaGreatDoor
