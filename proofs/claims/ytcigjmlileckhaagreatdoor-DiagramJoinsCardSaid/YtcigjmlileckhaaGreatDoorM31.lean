/- Plain: how many nodes growing makes at most; how long the texts are. No program in sight. What diagram.Build's closure finds and leaves in memory. Walk of the closure of diagram.Build: the ways that make a leaf. What the loop of diagram.Build's closure keeps. Walk of the closure of diagram.Build: a formula that is known, and one that is new. -/
import Derived.Test.YtcigjmlileckhaaGreatDoorM24
import Derived.Lib.ItoaLen
import Derived.Test.YtcigjmlileckhaaGreatDoorM14
import Derived.Test.YtcigjmlileckhaaGreatDoorM28
import Derived.Test.YtcigjmlileckhaaGreatDoorM30
import Derived.Test.YtcigjmlileckhaaGreatDoorM10
/- Plain: how many nodes growing makes at most; how long the texts are. No program in sight. -/
namespace Go.Proofs.YtcigjmlileckhaaGreatDoor
open Go.RowKit
/-- The nodes that are no leaves. -/
def inn (g : List NodeD) : Nat := g.countP fun n => decide (n.kids ≠ [])
/-- What is so of a table however full it is. -/
structure WInv (all : List NodeD) : Prop where
 nodup : all.Nodup
 leaf : ∀ n ∈ all, n.kids = [] → n = ⟨n.leaf, 0, [], []⟩
theorem WInv.nil : WInv [] := ⟨by simp, by simp⟩
theorem WInv.len {all : List NodeD} (h : WInv all) : all.length ≤ inn all + 2 := by
 have h1 : (all.filter fun n => decide (n.kids = [])).length ≤ 2 := by
  have := subset_length (all.filter fun n => decide (n.kids = [])) [⟨true, 0, [], []⟩, ⟨false, 0, [], []⟩] (h.nodup.filter _) (fun x hx => by
   obtain ⟨hm, hk⟩ := List.mem_filter.1 hx
   have e := h.leaf x hm (by simpa using hk)
   rw [e]
   cases x.leaf <;> simp)
  simpa using this
 have h2 := List.length_eq_countP_add_countP (fun n : NodeD => decide (n.kids = [])) (l := all)
 have h3 : all.countP (fun a : NodeD => decide ¬(decide (a.kids = []) = true)) = inn all := by unfold inn; congr 1; funext n; simp
 rw [List.countP_eq_length_filter] at h2
 omega
theorem inn_app (g t : List NodeD) : inn (g ++ t) = inn g + inn t := by unfold inn; rw [List.countP_append]
theorem node_w {all : List NodeD} (h : WInv all) {n : NodeD} (hn : n.kids = [] → n = ⟨n.leaf, 0, [], []⟩) : WInv (nodeS all n).2 ∧ Rng (nodeS all n).2 (nodeS all n).1 ∧ inn (nodeS all n).2 ≤ inn all + (if n.kids = [] then 0 else 1) := by
 unfold nodeS
 by_cases hm : n ∈ all
 ·rw [if_pos hm]
  have hlt := List.idxOf_lt_length_of_mem hm
  exact ⟨h, ⟨by simp, by simpa using hlt⟩, by simp⟩
 ·rw [if_neg hm]
  refine ⟨⟨?_, fun m hm' => ?_⟩, ⟨by simp, by simp; omega⟩, ?_⟩
  ·rw [List.nodup_append]
   exact ⟨h.nodup, by simp, fun a ha b hb e => by simp at hb; subst hb; exact hm (e ▸ ha)⟩
  ·rcases List.mem_append.1 hm' with h' | h'
   ·exact h.leaf m h'
   ·simp at h'; subst h'; exact hn
  ·simp only
   rw [inn_app]
   have : inn [n] = if n.kids = [] then 0 else 1 := by unfold inn; by_cases e : n.kids = [] <;> simp [e]
   omega
theorem Rng.pre {g g' : List NodeD} {i : Int} (h : Rng g i) (hp : ∃ t, g' = g ++ t) : Rng g' i := by obtain ⟨t, rfl⟩ := hp; exact h.app t
theorem inner_w {all : List NodeD} (h : WInv all) {i : Int} {ss ks : List Int} (hk : ∀ k ∈ ks, Rng all k) (hne : ks ≠ []) : WInv (innerS all i ss ks).2 ∧ Rng (innerS all i ss ks).2 (innerS all i ss ks).1 ∧ inn (innerS all i ss ks).2 ≤ inn all + 1 := by
 unfold innerS
 split
 ·refine ⟨h, hk _ (mem_getD (List.length_pos_iff.2 hne)), Nat.le_succ _⟩
 ·obtain ⟨h1, h2, h3⟩ := node_w h (n := ⟨false, i, (mergeS (ks.getD 0 0) ss ks).1, ks.getD 0 0 :: (mergeS (ks.getD 0 0) ss ks).2⟩) (fun e => by cases e)
  exact ⟨h1, h2, by simpa using h3⟩
structure WSt (st : GSt) : Prop where
 tab : WInv st.all
 done : ∀ p ∈ st.done, Rng st.all p.2
theorem WSt.new : WSt ⟨[], [], false⟩ := ⟨WInv.nil, by simp⟩
theorem leaf_w {st : GSt} (h : WSt st) (b full : Bool) : WSt (leafG b full st).2 ∧ Rng (leafG b full st).2.all (leafG b full st).1 ∧ inn (leafG b full st).2.all ≤ inn st.all := by
 obtain ⟨h1, h2, h3⟩ := node_w h.tab (n := ⟨b, 0, [], []⟩) (fun _ => rfl)
 exact ⟨⟨h1, fun p hp => (h.done p hp).pre (node_pre _ _)⟩, h2, by show inn (nodeS st.all ⟨b, 0, [], []⟩).2 ≤ _; simpa using h3⟩
theorem kids_w {f : Int → GSt → Int × GSt} {B : Nat} (hpre : ∀ v st, ∃ t, (f v st).2.all = st.all ++ t) (hf : ∀ v st, WSt st → WSt (f v st).2 ∧ Rng (f v st).2.all (f v st).1 ∧ inn (f v st).2.all ≤ max (inn st.all) B) : ∀ (l : List Int) (st : GSt), WSt st →
  WSt (kidsA f l st).2 ∧ (∀ k ∈ (kidsA f l st).1, Rng (kidsA f l st).2.all k) ∧ inn (kidsA f l st).2.all ≤ max (inn st.all) B
 | [], st, h => ⟨h, by simp [kidsA], Nat.le_max_left _ _⟩
 | v :: l, st, h => by
  obtain ⟨h1, h2, h3⟩ := hf v st h
  obtain ⟨k1, k2, k3⟩ := kids_w hpre hf l _ h1
  refine ⟨k1, fun k hk => ?_, ?_⟩
  ·rcases List.mem_cons.1 hk with rfl | hk
   ·exact h2.pre (kidsG_pre hpre l _)
   ·exact k2 k hk
  ·unfold kidsA; simp only; omega
theorem kidsA_ne {σ : Type} {f : Int → σ → Int × σ} {l : List Int} {st : σ} (h : l ≠ []) : (kidsA f l st).1 ≠ [] := by
 intro e
 have := kidsA_length (f := f) l st
 rw [e] at this
 exact h (List.eq_nil_of_length_eq_zero this.symm)
theorem grow_w : ∀ (rest : List FactD) (i : Nat) (f : Fm) (st : GSt), WSt st → WSt (growS rest i f st).2 ∧ Rng (growS rest i f st).2.all (growS rest i f st).1 ∧ inn (growS rest i f st).2.all ≤ max (inn st.all) (4000 + rest.length)
 | [], i, f, st, h => by
  unfold growS
  split
  ·obtain ⟨a, b, c⟩ := leaf_w h (decide (f.op = 1)) st.full
   exact ⟨a, b, by omega⟩
  ·obtain ⟨a, b, c⟩ := leaf_w h false (st.full || decide (4000 < st.all.length))
   exact ⟨a, b, by omega⟩
 | x :: rest, i, f, st, h => by
  unfold growS
  split
  ·obtain ⟨a, b, c⟩ := leaf_w h (decide (f.op = 1)) st.full
   exact ⟨a, b, by omega⟩
  ·split
   ·obtain ⟨a, b, c⟩ := leaf_w h false true
    exact ⟨a, b, by omega⟩
   ·rename_i hfl
    split
    ·rename_i k hk
     exact ⟨h, h.done _ (kvI_mem hk), Nat.le_max_left _ _⟩
    ·have hin : inn st.all ≤ 4000 := by
      have h1 : inn st.all ≤ st.all.length := List.countP_le_length
      have h2 : ¬ 4000 < st.all.length := fun e => hfl (by rw [decide_eq_true e, Bool.or_true])
      omega
     obtain ⟨k1, k2, k3⟩ := kids_w (f := fun v st => growS rest (i + 1) (givenS x.name v f) st) (B := 4000 + rest.length) (fun v st => grow_pre rest _ _ st) (fun v st hs => grow_w rest _ _ st hs) (startsS f x) st h
     obtain ⟨i1, i2, i3⟩ := inner_w k1.tab (i := i) (ss := startsS f x) k2 (kidsA_ne (by simp [startsS]))
     refine ⟨⟨i1, fun p hp => ?_⟩, i2, ?_⟩
     ·rcases kvISet_mem hp with hp | hp
      ·exact (k1.done p hp).pre (inner_pre _ _ _ _)
      ·subst hp; exact i2
     ·simp only [List.length_cons]; omega
/-- The table is never longer than that. -/
theorem grow_len {rest : List FactD} {i : Nat} {f : Fm} {st : GSt} (h : WSt st) {N : Nat} (hN : inn st.all ≤ N) (hr : 4000 + rest.length ≤ N) : (growS rest i f st).2.all.length ≤ N + 2 := by
 obtain ⟨a, b, c⟩ := grow_w rest i f st h
 have := a.tab.len
 omega
theorem startsS_len (f : Fm) (x : FactD) : (startsS f x).length ≤ 1 + 2 * (testN x.name f).length := by
 have hi : ∀ (l : List Int) (n : Int), (insA l n).length ≤ l.length + 1 := by
  intro l n
  induction l with
  | nil => simp [insA]
  | cons a r ih => unfold insA; split <;> (try split) <;> simp <;> omega
 have hf : ∀ (l m : List Int), (l.foldl insA m).length ≤ m.length + l.length := by
  intro l
  induction l with
  | nil => simp
  | cons a l ih => intro m; rw [List.foldl_cons]; have := ih (insA m a); have := hi m a; simp; omega
 unfold startsS ascOf
 have h1 := hf ((((testN x.name f).flatMap fun n => [n, n + 1]).filter fun n => decide (x.lo < n) && decide (n ≤ x.hi))) []
 have h2 : ((((testN x.name f).flatMap fun n => [n, n + 1]).filter fun n => decide (x.lo < n) && decide (n ≤ x.hi))).length ≤ 2 * (testN x.name f).length := by
  refine Nat.le_trans (List.length_filter_le _ _) ?_
  generalize testN x.name f = l
  induction l with
  | nil => simp
  | cons a l ih => rw [List.flatMap_cons, List.length_append]; simp at ih ⊢; omega
 simp at h1 ⊢
 omega
mutual
theorem testN_le (nm : ByteArray) : ∀ f : Fm, (testN nm f).length ≤ fsize f
 | .mk op n cm nu kids => by
  have := testNs_le nm kids
  rw [testN, fsize, List.length_append]
  split <;> simp <;> omega
theorem testNs_le (nm : ByteArray) : ∀ l : List Fm, (testNs nm l).length ≤ fsizes l
 | [] => by simp [testNs, fsizes]
 | k :: r => by
  have h1 := testN_le nm k
  have h2 := testNs_le nm r
  rw [testNs, fsizes, List.length_append]; omega
end
mutual
/-- Its numbers fit 64 bits. -/
def fitF : Fm → Prop
 | .mk op _ cm nu kids => I64 op ∧ I64 cm ∧ I64 nu ∧ fitFs kids
def fitFs : List Fm → Prop
 | [] => True
 | k :: r => fitF k ∧ fitFs r
end
mutual
theorem spell_len : ∀ f : Fm, plainF f = true → fitF f → (spellT f).length ≤ 100 * fsize f
 | .mk op nm cm nu kids, h, hf => by
  rw [plainF] at h
  rw [fitF] at hf
  simp only [Bool.and_eq_true, decide_eq_true_eq] at h
  obtain ⟨⟨⟨h1, h2⟩, h3⟩, h4⟩ := h
  have hn : nm.data.toList.length ≤ 24 := by
   split at h3
   ·revert h3
    generalize nm.data.toList = l
    intro h3
    cases l with
    | nil => simp
    | cons c r => unfold isName at h3; simp only [Bool.and_eq_true, decide_eq_true_eq] at h3; simpa using h3.2
   ·rw [decide_eq_true_eq] at h3; rw [h3]; simp
  have hk := spells_len kids h4 hf.2.2.2
  have e1 := Lib.itoa_length_le op hf.1.1 hf.1.2
  have e2 := Lib.itoa_length_le cm hf.2.1.1 hf.2.1.2
  have e3 := Lib.itoa_length_le nu hf.2.2.1.1 hf.2.2.1.2
  rw [spellT, fsize]
  simp only [List.length_append, List.length_cons, List.length_nil]
  omega
theorem spells_len : ∀ l : List Fm, plainFs l = true → fitFs l → (spellsT l).length ≤ 100 * fsizes l
 | [], _, _ => by simp [spellsT]
 | k :: r, h, hf => by
  rw [plainFs] at h
  rw [fitFs] at hf
  simp only [Bool.and_eq_true] at h
  have h1 := spell_len k h.1 hf.1
  have h2 := spells_len r h.2 hf.2
  rw [spellsT, fsizes, List.length_append]; omega
end
mutual
theorem FmR.fitF {Z : Zone} {w : World} : ∀ (f : Fm) (cs : List Value), FmR Z w f cs → fitF f
 | .mk op nm c n kids, cs, h => by
  unfold FmR at h
  obtain ⟨h1, _, h3, h4, A, cap, e, _, _, _, h7⟩ := h
  exact ⟨h1, h3, h4, FmsR.fitFs kids A h7⟩
theorem FmsR.fitFs {Z : Zone} {w : World} : ∀ (l : List Fm) (A : Option Addr), FmsR Z w l A → fitFs l
 | [], _, _ => trivial
 | k :: ks, A, h => by
  unfold FmsR at h
  obtain ⟨b, off, cs, e, hz, hc, h1, h2⟩ := h
  exact ⟨FmR.fitF k cs h1, FmsR.fitFs ks _ h2⟩
end
end Go.Proofs.YtcigjmlileckhaaGreatDoor
/- What diagram.Build's closure finds and leaves in memory. -/
namespace Go.Proofs.YtcigjmlileckhaaGreatDoor
open Go.RowKit
def kvG (d : List (List UInt8 × Int)) : List (ByteArray × Value) := d.map fun p => (⟨p.1.toArray⟩, .int .i64 p.2)
theorem bytes_inj {k l : List UInt8} (h : (⟨k.toArray⟩ : ByteArray) = ⟨l.toArray⟩) : k = l := by
 injection h with h
 simpa using congrArg Array.toList h
theorem kvG_get : ∀ (d : List (List UInt8 × Int)) (k : List UInt8), kvGet (kvG d) ⟨k.toArray⟩ = (kvI d k).map (.int .i64)
 | [], _ => rfl
 | p :: r, k => by
  have ih := kvG_get r k
  unfold kvG at ih ⊢
  rw [List.map_cons, kvGet, kvI]
  by_cases h : k = p.1
  ·rw [if_pos (by rw [h]), if_pos h]; rfl
  ·rw [if_neg (fun e => h (bytes_inj e)), if_neg h, ih]
theorem kvG_set : ∀ (d : List (List UInt8 × Int)) (k : List UInt8) (v : Int), kvSet (kvG d) ⟨k.toArray⟩ (.int .i64 v) = kvG (kvISet d k v)
 | [], _, _ => rfl
 | p :: r, k, v => by
  have ih := kvG_set r k v
  unfold kvG at ih ⊢
  rw [List.map_cons, kvSet, kvISet]
  by_cases h : k = p.1
  ·rw [if_pos (by rw [h]), if_pos h]; rfl
  ·rw [if_neg (fun e => h (bytes_inj e)), if_neg h, List.map_cons, ih]
mutual
theorem testN_bounds {ds : List FactD} {nm : ByteArray} : ∀ f : Fm, okF ds f → ∀ n ∈ testN nm f, 0 ≤ n ∧ n ≤ 1000000
 | .mk op nm' cm nu kids, h, n, hn => by
  have h0 := firstErr_zero h
  obtain ⟨_, hks, _⟩ := okF_mk h
  rw [testN] at hn
  rcases List.mem_append.1 hn with hn | hn
  ·split at hn
   ·rename_i h3
    simp at hn
    subst hn
    have := (checkLook_test h0.1).2 h3.1
    exact ⟨this.1, this.2.1⟩
   ·simp at hn
  ·exact testNs_bounds kids hks n hn
theorem testNs_bounds {ds : List FactD} {nm : ByteArray} : ∀ l : List Fm, okFs ds l → ∀ n ∈ testNs nm l, 0 ≤ n ∧ n ≤ 1000000
 | [], _, n, hn => by simp [testNs] at hn
 | k :: r, h, n, hn => by
  rw [okFs_cons] at h
  rw [testNs] at hn
  rcases List.mem_append.1 hn with hn | hn
  ·exact testN_bounds k h.1 n hn
  ·exact testNs_bounds r h.2 n hn
end
/-- The blocks that the closure knows of. -/
structure GV where
 Mv : Nat
 Fv : Nat
 Dv : Nat
 Nv : Nat
 Gv : Nat
 M : Nat
 db : Nat
def GV.var (c : GV) (b : Nat) : Prop := b = c.Mv ∨ b = c.Dv ∨ b = c.Nv ∨ b = c.Gv
def GV.fn (c : GV) : Value := .func (.func 39) #[] #[.pointer (some ⟨c.Mv, 0, none⟩), .pointer (some ⟨c.Fv, 0, none⟩), .pointer (some ⟨c.Dv, 0, none⟩), .pointer (some ⟨c.Nv, 0, none⟩), .pointer (some ⟨c.Gv, 0, none⟩)]
/-- What a call of the closure keeps. -/
def GV.kept (c : GV) (F : Zone) : Zone := fun b => ¬ F b ∧ b ≠ c.db ∧ b ≠ c.Fv
structure GrW (c : GV) (vd : Value) (w : World) (st : GSt) (F Z : Zone) : Prop where
 mv : One w c.Mv (.pointer (some ⟨c.M, 0, none⟩))
 dv : One w c.Dv vd
 nv : One w c.Nv (.map (some c.db))
 gv : One w c.Gv c.fn
 fv : One w c.Fv (.bool st.full)
 mkr : MkS w c.M st.all F Z
 done : MapIs encS w c.db (kvG st.done)
 var : ∀ b, c.var b → c.kept F b
 fF : ¬ F c.Fv
 dF : ¬ F c.db
 fd : c.Fv ≠ c.db
 fZ : ¬ Z c.Fv
 dZ : ¬ Z c.db
section grw
variable {c : GV} {vd : Value} {w w' W : World} {st : GSt} {F Z F' Z' : Zone}
theorem GrW.keep (h : GrW c vd w st F Z) (hk : Keeps (fun b => F b ∨ Z b ∨ c.var b ∨ b = c.Fv ∨ b = c.db) w w') : GrW c vd w' st F Z := by
 have v : ∀ b, c.var b → (fun b => F b ∨ Z b ∨ c.var b ∨ b = c.Fv ∨ b = c.db) b := fun b hb => Or.inr (Or.inr (Or.inl hb))
 exact ⟨h.mv.keep hk (v _ (Or.inl rfl)), h.dv.keep hk (v _ (Or.inr (Or.inl rfl))), h.nv.keep hk (v _ (Or.inr (Or.inr (Or.inl rfl)))), h.gv.keep hk (v _ (Or.inr (Or.inr (Or.inr rfl)))),
  h.fv.keep hk (Or.inr (Or.inr (Or.inr (Or.inl rfl)))), h.mkr.keep (hk.mono fun b _ hb => hb.imp id Or.inl), h.done.of_block (hk.block c.db h.done.lt (Or.inr (Or.inr (Or.inr (Or.inr rfl))))), h.var, h.fF, h.dF, h.fd, h.fZ, h.dZ⟩
theorem GrW.below (h : GrW c vd w st F Z) (hb : Below w.heap.size w w') : GrW c vd w' st F Z := h.keep (.of_below hb)
theorem GrW.lt (h : GrW c vd w st F Z) : (∀ b, c.var b → b < w.heap.size) ∧ c.Fv < w.heap.size ∧ c.db < w.heap.size :=
 ⟨fun b hb => by rcases hb with rfl | rfl | rfl | rfl; exact h.mv.lt; exact h.dv.lt; exact h.nv.lt; exact h.gv.lt, h.fv.lt, h.done.lt⟩
/-- Another table. -/
theorem GrW.made (h : GrW c vd w st F Z) (hb : Below w.heap.size w W) {all : List NodeD} (hm : MkS w' c.M all F' Z') (hF : ∀ b, F' b → F b ∨ W.heap.size ≤ b) (hZ : ∀ b, Z' b → Z b ∨ W.heap.size ≤ b) (hk : Keeps (fun b => ¬ F b) W w') : GrW c vd w' ⟨all, st.done, st.full⟩ F' Z' := by
 have h' := h.below hb
 have hl := h.lt
 have hs := hb.size
 refine ⟨h'.mv.keep hk (h.var _ (Or.inl rfl)).1, h'.dv.keep hk (h.var _ (Or.inr (Or.inl rfl))).1, h'.nv.keep hk (h.var _ (Or.inr (Or.inr (Or.inl rfl)))).1, h'.gv.keep hk (h.var _ (Or.inr (Or.inr (Or.inr rfl)))).1, h'.fv.keep hk h.fF, hm,
  h'.done.of_block (hk.block c.db h'.done.lt h.dF), fun b hb => ⟨fun hf => ?_, (h.var b hb).2⟩, fun hf => ?_, fun hf => ?_, h.fd, fun hf => ?_, fun hf => ?_⟩
 ·rcases hF b hf with hf | hf
  ·exact (h.var b hb).1 hf
  ·have := hl.1 b hb; omega
 ·rcases hF _ hf with hf | hf
  ·exact h.fF hf
  ·omega
 ·rcases hF _ hf with hf | hf
  ·exact h.dF hf
  ·omega
 ·rcases hZ _ hf with hf | hf
  ·exact h.fZ hf
  ·omega
 ·rcases hZ _ hf with hf | hf
  ·exact h.dZ hf
  ·omega
theorem GrW.setFull (h : GrW c vd w st F Z) (b : Bool) : GrW c vd (w.setCell ⟨c.Fv, 0, none⟩ (.bool b)) ⟨st.all, st.done, b⟩ F Z := by
 have hk : Keeps (fun b => b ≠ c.Fv) w (w.setCell ⟨c.Fv, 0, none⟩ (.bool b)) := (Keeps.refl _ _).setCell (fun _ h => h rfl) _
 have v := fun b hb => (h.var b hb).2.2
 exact ⟨h.mv.keep hk (v _ (Or.inl rfl)), h.dv.keep hk (v _ (Or.inr (Or.inl rfl))), h.nv.keep hk (v _ (Or.inr (Or.inr (Or.inl rfl)))), h.gv.keep hk (v _ (Or.inr (Or.inr (Or.inr rfl)))),
  h.fv.set_ _, h.mkr.keep (hk.mono fun b _ hb e => by subst e; rcases hb with hb | hb; exact h.fF hb; exact h.fZ hb), h.done.of_block (hk.block c.db h.done.lt h.fd.symm), h.var, h.fF, h.dF, h.fd, h.fZ, h.dZ⟩
theorem GrW.setDone (h : GrW c vd w st F Z) {d : List (List UInt8 × Int)} (hm : MapIs encS w' c.db (kvG d)) (hk : Keeps (fun b => b ≠ c.db) w w') : GrW c vd w' ⟨st.all, d, st.full⟩ F Z := by
 have v := fun b hb => (h.var b hb).2.1
 exact ⟨h.mv.keep hk (v _ (Or.inl rfl)), h.dv.keep hk (v _ (Or.inr (Or.inl rfl))), h.nv.keep hk (v _ (Or.inr (Or.inr (Or.inl rfl)))), h.gv.keep hk (v _ (Or.inr (Or.inr (Or.inr rfl)))),
  h.fv.keep hk h.fd, h.mkr.keep (hk.mono fun b _ hb e => by subst e; rcases hb with hb | hb; exact h.dF hb; exact h.dZ hb), hm, h.var, h.fF, h.dF, h.fd, h.fZ, h.dZ⟩
end grw
/-- What a call of the closure leaves. -/
def GrPost (c : GV) (vd : Value) (w : World) (F Z : Zone) (r : Int × GSt) (e : Ending) (w' : World) : Prop :=
 e = .returned (.int .i64 r.1) ∧ (∃ F' Z', GrW c vd w' r.2 F' Z' ∧ (∀ b, F' b → F b ∨ w.heap.size ≤ b) ∧ (∀ b, Z' b → Z b ∨ w.heap.size ≤ b)) ∧ Keeps (c.kept F) w w'
/-- What is asked ahead of a call. -/
structure GrIn (c : GV) (ds : List FactD) (Zd : Zone) (D : Option Addr) (dcap B0 : Nat) (w : World) (st : GSt) (F Z Zf : Zone) (f : Fm) (cs : List Value) : Prop where
 mem : GrW c (.slice D ds.length dcap) w st F Z
 fm : FmR Zf w f cs
 offF : ∀ b, Zf b → c.kept F b ∧ b < w.heap.size
 d : Facts Zd w (.slice D ds.length dcap) ds
 offD : ∀ b, Zd b → c.kept F b ∧ b < w.heap.size
 tab : TabB B0 w
 base : B0 ≤ w.heap.size ∧ (∀ b, F b → B0 ≤ b) ∧ B0 ≤ c.db ∧ B0 ≤ c.Fv
 ok : okF ds f
 size : fsize f ≤ 200
 wst : WSt st
 len : inn st.all ≤ 4000 + ds.length
 dom : validDom ds = true
theorem validDom_len {ds : List FactD} (h : validDom ds = true) : ds.length ≤ 60 := by
 unfold validDom at h
 simp only [Bool.and_eq_true, decide_eq_true_eq] at h
 exact h.2
theorem GrIn.all_len {c : GV} {ds : List FactD} {Zd : Zone} {D : Option Addr} {dcap B0 : Nat} {w : World} {st : GSt} {F Z Zf : Zone} {f : Fm} {cs : List Value} (h : GrIn c ds Zd D dcap B0 w st F Z Zf f cs) : st.all.length ≤ 4062 := by
 have h1 := h.wst.tab.len
 have h2 := h.len
 have h3 := validDom_len h.dom
 omega
theorem leaf_post {c : GV} {vd : Value} {w W w' : World} {st : GSt} {F Z : Zone} {b : Bool} {e : Ending} (h : GrW c vd w st F Z) (hb : Below w.heap.size w W) (hp : MkPost W c.M F (fun b => Z b ∨ False) (nodeS st.all ⟨b, 0, [], []⟩) e w') :
  GrPost c vd w F Z (leafG b st.full st) e w' := by
 obtain ⟨he, ⟨F', h1, h2⟩, h3⟩ := hp
 have hs := hb.size
 refine ⟨he, ⟨F', _, h.made hb h1 h2 (fun b hb => hb.imp id fun h => h.elim) h3, fun b hb => (h2 b hb).imp id fun h => by omega, fun b hb => hb.imp id fun h => h.elim⟩, (Keeps.of_below hb).trans (h3.mono fun b _ hb => hb.1)⟩
theorem leaf_ok (w : World) (F : Zone) (b : Bool) : NodeOk w F (fun _ => False) ⟨b, 0, [], []⟩ [.bool b, .int .i64 0, .slice none 0 0, .slice none 0 0] :=
 ⟨⟨_, _, rfl, by show I64 0; constructor <;> omega, Ints.nil _ _, Ints.nil _ _⟩, fun b h => h.elim, by simp, by simp⟩
end Go.Proofs.YtcigjmlileckhaaGreatDoor
/- Walk of the closure of diagram.Build: the ways that make a leaf. -/
namespace Go.Proofs.YtcigjmlileckhaaGreatDoor
open Go.RowKit
theorem Tryz.egBuild1 : ∀ args w, (callFunc 39 args).run Tryz.prog w = .ok (.enter 39 args) w := enters_of Tryz.func39 (by kernel_rfl) rfl
abbrev GV.args (c : GV) (cs : List Value) (i : Nat) : Array Value := #[.agg cs.toArray, .int .i64 i, .pointer (some ⟨c.Mv, 0, none⟩), .pointer (some ⟨c.Fv, 0, none⟩), .pointer (some ⟨c.Dv, 0, none⟩), .pointer (some ⟨c.Nv, 0, none⟩), .pointer (some ⟨c.Gv, 0, none⟩)]
section
variable {c : GV} {ds : List FactD} {Zd : Zone} {D : Option Addr} {dcap B0 : Nat} {w : World} {st : GSt} {F Z Zf : Zone} {f : Fm} {cs : List Value}
theorem GrIn.node (h : GrIn c ds Zd D dcap B0 w st F Z Zf f cs) (b : Bool) {W : World} (hW : Below w.heap.size w W) :
  Calls Tryz.prog 40 #[.pointer (some ⟨c.M, 0, none⟩), .agg #[.bool b, .int .i64 0, .slice none 0 0, .slice none 0 0]] W (MkPost W c.M F (fun b => Z b ∨ False) (nodeS st.all ⟨b, 0, [], []⟩)) :=
 node_any c.M st.all F Z (fun _ => False) ⟨b, 0, [], []⟩ [.bool b, .int .i64 0, .slice none 0 0, .slice none 0 0] W (h.mem.mkr.below hW) (leaf_ok W F b) (by have := h.all_len; omega) ((h.tab.on (hW.mono h.base.1)).mono (by have := h.base.1; have := hW.size; omega))
set_option maxRecDepth 100000 in
set_option maxHeartbeats 4000000 in
theorem grow_leaf (i : Nat) (h : GrIn c ds Zd D dcap B0 w st F Z Zf f cs) (hc : f.op = 1 ∨ f.op = 2) :
  Calls Tryz.prog 39 (c.args cs i) w (GrPost c (.slice D ds.length dcap) w F Z (leafG (decide (f.op = 1)) st.full st)) := by
 have HP := hid (fun (b : Bool) (W w' : World) (e : Ending) (hW : Below w.heap.size w W) hp => @leaf_post c (.slice D ds.length dcap) w W w' st F Z b e h.mem hW hp)
 have HN := hid (fun (b : Bool) (W : World) (hW : Below w.heap.size w W) => h.node b hW)
 obtain ⟨A, cap, rfl⟩ := FmR.form h.fm
 have m0 := h.mem.mv.cell
 have m0l := h.mem.mv.lt
 have HB := hid (fun o => below1 w o)
 clear h
 unfold GV.args
 generalize f.op = op at *
 by_cases h1 : op = 1
 ·subst h1
  go_enter Tryz.func39, Tryz.ntmps39
  go_wp2_with fail
  refine (HN.out true _ (HB.out _)).mono ?_
  intro e w1 hp
  have HE := hid (HP.out true _ _ _ (HB.out _) hp)
  obtain ⟨rfl, -⟩ := hp
  go_wp2
  go_ret
  exact HE.out
 ·obtain rfl : op = 2 := by omega
  go_enter Tryz.func39, Tryz.ntmps39
  go_wp2_with fail
  refine (HN.out false _ (HB.out _)).mono ?_
  intro e w1 hp
  have HE := hid (HP.out false _ _ _ (HB.out _) hp)
  obtain ⟨rfl, -⟩ := hp
  go_wp2
  go_ret
  exact HE.out
theorem MkS.all_cell {M : Nat} {all : List NodeD} (h : MkS w M all F Z) : ∃ A cap, w.cell? ⟨M, 0, none⟩ = some (.slice A all.length cap) ∧ M < w.heap.size := by
 obtain ⟨⟨v, mp, csl, h1, h2, -⟩, hM, -⟩ := h
 obtain ⟨A, cap, rfl, -⟩ := Row.of_own h2 (by decide)
 exact ⟨A, cap, h1.cell 0, h1.lt⟩
theorem leaf_post2 {W w' : World} {b full : Bool} {e : Ending} {vd : Value} (h : GrW c vd W ⟨st.all, st.done, full⟩ F Z) (hk : Keeps (c.kept F) w W) (hp : MkPost W c.M F (fun b => Z b ∨ False) (nodeS st.all ⟨b, 0, [], []⟩) e w') :
  GrPost c vd w F Z (leafG b full st) e w' := by
 obtain ⟨he, ⟨F', h1, h2⟩, h3⟩ := hp
 have hs := hk.size
 refine ⟨he, ⟨F', _, GrW.made h (Below.refl _ _) h1 h2 (fun b hb => hb.imp id fun h => h.elim) h3, fun b hb => (h2 b hb).imp id fun h => by omega, fun b hb => hb.imp id fun h => h.elim⟩, hk.trans (h3.mono fun b _ hb => hb.1)⟩
theorem set_kept (o : Obj) (u : Value) : Keeps (c.kept F) w ((w.setCell ⟨c.Fv, 0, none⟩ u).alloc o) := ((Keeps.refl _ _).setCell (fun _ h => h.2.2 rfl) u).alloc o
theorem GrIn.belowB (h : GrIn c ds Zd D dcap B0 w st F Z Zf f cs) {W : World} (hk : Keeps (c.kept F) w W) : Below B0 w W :=
 ⟨hk.os, hk.tape, hk.output, hk.size, fun b hb => hk.block b (by have := h.base.1; omega) ⟨fun hf => by have := h.base.2.1 b hf; omega, by have := h.base.2.2.1; omega, by have := h.base.2.2.2; omega⟩⟩
theorem GrIn.node2 (h : GrIn c ds Zd D dcap B0 w st F Z Zf f cs) (b full : Bool) {vd : Value} {W : World} (hg : GrW c vd W ⟨st.all, st.done, full⟩ F Z) (hk : Keeps (c.kept F) w W) :
  Calls Tryz.prog 40 #[.pointer (some ⟨c.M, 0, none⟩), .agg #[.bool b, .int .i64 0, .slice none 0 0, .slice none 0 0]] W (MkPost W c.M F (fun b => Z b ∨ False) (nodeS st.all ⟨b, 0, [], []⟩)) :=
 node_any c.M st.all F Z (fun _ => False) ⟨b, 0, [], []⟩ [.bool b, .int .i64 0, .slice none 0 0, .slice none 0 0] W hg.mkr (leaf_ok W F b) (by have := h.all_len; omega) ((h.tab.on (h.belowB hk)).mono (by have := h.base.1; have := hk.size; omega))
set_option maxRecDepth 100000 in
set_option maxHeartbeats 4000000 in
theorem grow_stop (i : Nat) (h : GrIn c ds Zd D dcap B0 w st F Z Zf f cs) (hc : ¬ (f.op = 1 ∨ f.op = 2)) (_hi : i ≤ ds.length) (hs : (st.full || decide (4000 < st.all.length)) = true ∨ i = ds.length) :
  Calls Tryz.prog 39 (c.args cs i) w (GrPost c (.slice D ds.length dcap) w F Z (leafG false (st.full || decide (4000 < st.all.length)) st)) := by
 have HS := hid (fun (o : Obj) (b : Bool) => (h.mem.setFull b).below (below1 _ o))
 have HN := hid (fun (full : Bool) (W : World) hg hk => h.node2 false full (vd := .slice D ds.length dcap) (W := W) hg hk)
 have HP := hid (fun (full : Bool) (W w' : World) (e : Ending) hg hk hp => @leaf_post2 c w st F Z W w' false full e (.slice D ds.length dcap) hg hk hp)
 have HK := hid (fun (o : Obj) (u : Value) => @set_kept c w F o u)
 obtain ⟨A, cap, rfl⟩ := FmR.form h.fm
 obtain ⟨AA, acap, a0, a0l⟩ := h.mem.mkr.all_cell
 have m0 := h.mem.mv.cell
 have m0l := h.mem.mv.lt
 have f0 := h.mem.fv.cell
 have f0f := h.mem.fv.free
 have f0l := h.mem.fv.lt
 have hdl := validDom_len h.dom
 have e1 : (f.op == (1 : Int)) = false := by simp; omega
 have e2 : (f.op == (2 : Int)) = false := by simp; omega
 clear h hc
 unfold GV.args
 generalize f.op = op at *
 generalize hal : st.all.length = n at *
 cases hf : st.full with
 | true =>
  rw [hf] at f0
  clear hs
  go_enter Tryz.func39, Tryz.ntmps39
  go_upto_region 4 with (fail)
  have hg := HS.out (.cells #[.int .i64 op, .string f.name, .int .i64 f.cmp, .int .i64 f.num, .slice A f.kids.length cap] 24) true
  have hk := HK.out (.cells #[.int .i64 op, .string f.name, .int .i64 f.cmp, .int .i64 f.num, .slice A f.kids.length cap] 24) (.bool true)
  have HG := hid (And.intro hg hk)
  have hdv := (hg.dv.cell)
  clear m0 m0l f0 f0f f0l a0 a0l
  have m0 := hg.mv.cell
  have m0l := hg.mv.lt
  have d0l := hg.dv.lt
  have f0 := hg.fv.cell
  have f0l := hg.fv.lt
  clear hg hk
  generalize (w.setCell ⟨c.Fv, 0, none⟩ (.bool true)).alloc (.cells #[.int .i64 op, .string f.name, .int .i64 f.cmp, .int .i64 f.num, .slice A f.kids.length cap] 24) = W at *
  go_wp2_with fail
  refine (HN.out true _ HG.out.1 HG.out.2).mono ?_
  intro e w1 hp
  have HE := hid (HP.out true _ _ _ HG.out.1 HG.out.2 hp)
  obtain ⟨rfl, -⟩ := hp
  go_wp2
  go_ret
  exact HE.out
 | false =>
  rw [hf] at f0 hs
  rw [Bool.false_or] at hs
  by_cases hn : 4000 < n
  ·have e3 : decide ((4000 : Int) < (n : Int)) = true := by simp; omega
   have e3' : decide (4000 < n) = true := by simp; omega
   rw [decide_eq_true hn, Bool.false_or]
   clear hs hn
   go_enter Tryz.func39, Tryz.ntmps39
   go_upto_region 4 with (fail)
   have hg := HS.out (.cells #[.int .i64 op, .string f.name, .int .i64 f.cmp, .int .i64 f.num, .slice A f.kids.length cap] 24) true
   have hk := HK.out (.cells #[.int .i64 op, .string f.name, .int .i64 f.cmp, .int .i64 f.num, .slice A f.kids.length cap] 24) (.bool true)
   have HG := hid (And.intro hg hk)
   have hdv := (hg.dv.cell)
   clear m0 m0l f0 f0f f0l a0 a0l
   have m0 := hg.mv.cell
   have m0l := hg.mv.lt
   have d0l := hg.dv.lt
   have f0 := hg.fv.cell
   have f0l := hg.fv.lt
   clear hg hk
   generalize (w.setCell ⟨c.Fv, 0, none⟩ (.bool true)).alloc (.cells #[.int .i64 op, .string f.name, .int .i64 f.cmp, .int .i64 f.num, .slice A f.kids.length cap] 24) = W at *
   go_wp2_with fail
   refine (HN.out true _ HG.out.1 HG.out.2).mono ?_
   intro e w1 hp
   have HE := hid (HP.out true _ _ _ HG.out.1 HG.out.2 hp)
   obtain ⟨rfl, -⟩ := hp
   go_wp2
   go_ret
   exact HE.out
  ·have e3 : decide ((4000 : Int) < (n : Int)) = false := by simp; omega
   have e3' : decide (4000 < n) = false := by simp; omega
   rw [decide_eq_false hn] at hs
   rw [decide_eq_false hn, Bool.false_or]
   have e4 : ((i : Int) == (ds.length : Int)) = true := by simp at hs; simp [hs]
   clear hs hn
   go_enter Tryz.func39, Tryz.ntmps39
   go_upto_region 4 with (fail)
   have hg := HS.out (.cells #[.int .i64 op, .string f.name, .int .i64 f.cmp, .int .i64 f.num, .slice A f.kids.length cap] 24) false
   have hk := HK.out (.cells #[.int .i64 op, .string f.name, .int .i64 f.cmp, .int .i64 f.num, .slice A f.kids.length cap] 24) (.bool false)
   have HG := hid (And.intro hg hk)
   have hdv := (hg.dv.cell)
   clear m0 m0l f0 f0f f0l a0 a0l
   have m0 := hg.mv.cell
   have m0l := hg.mv.lt
   have d0l := hg.dv.lt
   have f0 := hg.fv.cell
   have f0l := hg.fv.lt
   clear hg hk
   generalize (w.setCell ⟨c.Fv, 0, none⟩ (.bool false)).alloc (.cells #[.int .i64 op, .string f.name, .int .i64 f.cmp, .int .i64 f.num, .slice A f.kids.length cap] 24) = W at *
   go_wp2_with fail
   refine (HN.out false _ HG.out.1 HG.out.2).mono ?_
   intro e w1 hp
   have HE := hid (HP.out false _ _ _ HG.out.1 HG.out.2 hp)
   obtain ⟨rfl, -⟩ := hp
   go_wp2
   go_ret
   exact HE.out
end
end Go.Proofs.YtcigjmlileckhaaGreatDoor
/- What the loop of diagram.Build's closure keeps. -/
namespace Go.Proofs.YtcigjmlileckhaaGreatDoor
open Go.RowKit
theorem kidsA_snoc {σ : Type} (f : Int → σ → Int × σ) : ∀ (l : List Int) (v : Int) (st : σ), kidsA f (l ++ [v]) st = ((kidsA f l st).1 ++ [(f v (kidsA f l st).2).1], (f v (kidsA f l st).2).2)
 | [], _, _ => rfl
 | a :: l, v, st => by
  have ih := kidsA_snoc f l v (f a st).2
  rw [List.cons_append, kidsA, kidsA, ih]; rfl
/-- The loop's round: the kids that are made. -/
structure GrL (c : GV) (vd : Value) (w6 wr : World) (F Z : Zone) (st' : GSt) (kids : List Int) (vk : Value) (F' Z' : Zone) : Prop where
 own : wr.ownsRow w6.heap.size 3 1 vk kids.length (kids.map (.int .i64))
 row : ∀ b, vk.ownBlock = some b → c.kept F' b ∧ ¬ Z' b ∧ ¬ c.var b
 mem : GrW c vd wr st' F' Z'
 hF : ∀ b, F' b → F b ∨ w6.heap.size ≤ b
 hZ : ∀ b, Z' b → Z b ∨ w6.heap.size ≤ b
 kept : Keeps (c.kept F) w6 wr
theorem GrL.start {c : GV} {vd : Value} {w6 : World} {F Z : Zone} {st : GSt} (h : GrW c vd w6 st F Z) : GrL c vd w6 w6 F Z st [] (.slice none 0 0) F Z :=
 ⟨World.ownsRow_nil _ _ _ _, fun b hb => (by cases hb), h, fun b hb => Or.inl hb, fun b hb => Or.inl hb, Keeps.refl _ _⟩
theorem kept_step {c : GV} {F F' : Zone} {n m : Nat} (h : ∀ b, F' b → F b ∨ n ≤ b) {b : Nat} (hb : c.kept F b) (hlt : b < m) (hm : m ≤ n) : c.kept F' b :=
 ⟨fun hf => by
  rcases h b hf with hf | hf
  ·exact hb.1 hf
  ·omega, hb.2⟩
theorem GrL.step {c : GV} {vd : Value} {w6 wr w7 w8 w10 : World} {F Z F' Z' : Zone} {st' : GSt} {kids : List Int} {vk v5 : Value} {r : Int × GSt} {e : Ending} {o : Obj} (h : GrL c vd w6 wr F Z st' kids vk F' Z') (hb7 : Below wr.heap.size wr w7)
  (hp : GrPost c vd w7 F' Z' r e w8) (hg : (w8.alloc o).grownBy w10 vk.ownBlock) (ho : w10.ownsRow w6.heap.size 3 1 v5 (kids.length + 1) (kids.map (.int .i64) ++ [.int .i64 r.1])) (hat : v5.ownBlock = vk.ownBlock ∨ v5.ownBlock = some (w8.alloc o).heap.size) :
  ∃ F'' Z'', GrL c vd w6 w10 F Z r.2 (kids ++ [r.1]) v5 F'' Z'' := by
 obtain ⟨-, ⟨F'', Z'', hm, hF'', hZ''⟩, hk8⟩ := hp
 have hs7 := hb7.size
 have hs8 := hk8.size
 have hlt := hm.lt
 have hown8 : w8.ownsRow w6.heap.size 3 1 vk kids.length (kids.map (.int .i64)) := own_keep (own_keep h.own (Keeps.of_below (Z := fun _ => True) hb7) (fun _ _ => trivial)) hk8 (fun k hk => (h.row k hk).1)
 have hvk : ∀ b, vk.ownBlock = some b → b < wr.heap.size := fun b hb => (h.own.lt b hb).2
 have hnF : ∀ b, vk.ownBlock = some b → c.kept F'' b ∧ ¬ Z'' b ∧ ¬ c.var b := fun b hb => by
  have h1 := h.row b hb
  have h2 := hvk b hb
  refine ⟨kept_step hF'' h1.1 h2 hs7, fun hz => ?_, h1.2.2⟩
  rcases hZ'' b hz with hz | hz
  ·exact h1.2.1 hz
  ·omega
 have hmk := hm.mkr
 have hk10 : Keeps (fun b => vk.ownBlock ≠ some b) w8 w10 := ((Keeps.refl _ _).alloc o).grown hg (fun k hk _ hz => hz hk)
 refine ⟨F'', Z'', by simpa using ho, fun b hb => ?_, hm.keep (hk10.mono fun b hlt' hb e => ?_), fun b hb => ?_, fun b hb => ?_, ?_⟩
 ·rcases hat with e | e
  ·rw [e] at hb; exact hnF b hb
  ·rw [e] at hb
   injection hb with hb
   subst hb
   have hsz : (w8.alloc o).heap.size = w8.heap.size + 1 := by simp
   rw [hsz]
   refine ⟨⟨fun hf => ?_, ?_, ?_⟩, fun hz => ?_, fun hv => ?_⟩
   ·have := hmk.liveF _ hf; omega
   ·have := hlt.2.2; omega
   ·have := hlt.2.1; omega
   ·have := hmk.liveZ _ hz; omega
   ·have := hlt.1 _ hv; omega
 ·have hn := hnF b e
  rcases hb with hb | hb | hb | hb | hb
  ·exact hn.1.1 hb
  ·exact hn.2.1 hb
  ·exact hn.2.2 hb
  ·exact hn.1.2.2 hb
  ·exact hn.1.2.1 hb
 ·rcases hF'' b hb with hb | hb
  ·exact h.hF b hb
  ·have := h.kept.size; exact Or.inr (by omega)
 ·rcases hZ'' b hb with hb | hb
  ·exact h.hZ b hb
  ·have := h.kept.size; exact Or.inr (by omega)
 ·have hs6 := h.kept.size
  have hs10 := hk10.size
  refine ⟨hk10.os.trans (hk8.os.trans (hb7.os.trans h.kept.os)), hk10.tape.trans (hk8.tape.trans (hb7.tape.trans h.kept.tape)), hk10.output.trans (hk8.output.trans (hb7.output.trans h.kept.output)), by omega, fun k hk hz => ?_⟩
  rw [hk10.block k (by omega) (fun e => by have := (h.own.lt k e).1; omega), hk8.block k (by omega) (kept_step h.hF hz hk (Nat.le_refl _)), hb7.block k (by omega), h.kept.block k hk hz]
end Go.Proofs.YtcigjmlileckhaaGreatDoor
/- Walk of the closure of diagram.Build: a formula that is known, and one that is new. -/
namespace Go.Proofs.YtcigjmlileckhaaGreatDoor
open Go.RowKit Go.Shelf
theorem key_bytes (i : Nat) (f : Fm) : (⟨(Lib.itoa (i : Int)).toArray⟩ : ByteArray) ++ ⟨(spellT f).toArray⟩ = ⟨(keyT i f).toArray⟩ := by
 unfold keyT
 apply ByteArray.ext
 simp
theorem keyT_len {i : Nat} {f : Fm} (hi : i ≤ 100) (h : (spellT f).length ≤ 20000) : (keyT i f).length ≤ 20021 := by
 unfold keyT
 have := Lib.itoa_length_le (i : Int) (by omega) (by omega)
 rw [List.length_append]; omega
theorem Tryz.lookK {w : World} {b : Nat} {d : List (List UInt8 × Int)} (h : MapIs encS w b (kvG d)) (k : List UInt8) :
  (Instr.lookup 65 (.map (some b)) (.string ⟨k.toArray⟩) true).run Tryz.prog w = .ok (.tuple #[(match kvI d k with | some v => .int .i64 v | none => .int .i64 0), .bool (kvI d k).isSome]) w := by
 rw [Tryz.lookI h, kvG_get, if_pos rfl]
 cases kvI d k <;> rfl
section
variable {c : GV} {ds : List FactD} {Zd : Zone} {D : Option Addr} {dcap B0 : Nat} {w : World} {st : GSt} {F Z Zf : Zone} {f : Fm} {cs : List Value}
/-- What the way to the loop is given. -/
theorem GrIn.spell (h : GrIn c ds Zd D dcap B0 w st F Z Zf f cs) {W1 : World} (hk : Keeps (c.kept F) w W1) :
  Calls Tryz.prog 41 #[.pointer (some ⟨W1.heap.size, 0, none⟩), .agg cs.toArray] (W1.alloc (.cells #[.pointer none, .slice none 0 0] 75)) fun e w' =>
   e = .returned (.tuple #[]) ∧ IsB W1.heap.size W1.heap.size (Lib.byteCells (spellT f)) w' ∧ Below W1.heap.size W1 w' := by
 have hs := hk.size
 have hf : FmR (fun b => Zf b ∧ b < w.heap.size) W1 f cs := FmR.keep (hk.mono fun b _ hb => (h.offF b hb.1).1) _ _ (FmR.live _ _ h.fm)
 have hlen := spell_len f (ok_plain f h.ok) (FmR.fitF _ _ h.fm)
 have hsz := h.size
 refine (spell_any W1.heap.size W1.heap.size (fun b => Zf b ∧ b < w.heap.size) (fun z hz => by omega) (fsize f) f (Nat.le_refl _) cs [] _ (FmR.keep ((Keeps.refl _ _).alloc _) _ _ hf) (by omega) (by simp; omega)
  (((h.tab.on ((h.belowB hk).alloc (by have := h.base.1; omega) _))).mono (by have := h.base.1; omega)) (Lib.IsBuilderF.of (Lib.fresh_isBuilder _ _ _)) (by simp)).mono ?_
 rintro e w' ⟨rfl, h1, h2, -⟩
 exact ⟨rfl, by simpa using h1, (below1 W1 _).trans h2⟩
set_option maxRecDepth 100000 in
set_option maxHeartbeats 8000000 in
theorem grow_known (i : Nat) (h : GrIn c ds Zd D dcap B0 w st F Z Zf f cs) (hc : ¬ (f.op = 1 ∨ f.op = 2)) (hi : i < ds.length) (hs : (st.full || decide (4000 < st.all.length)) = false) {k : Int} (hkn : kvI st.done (keyT i f) = some k) :
  Calls Tryz.prog 39 (c.args cs i) w (GrPost c (.slice D ds.length dcap) w F Z (k, st)) := by
 simp only [Bool.or_eq_false_iff] at hs
 obtain ⟨hfu, hal⟩ := hs
 have HH := hid h
 have HKN := hid hkn
 have HST := hid (show (⟨st.all, st.done, false⟩ : GSt) = st from by rw [← hfu])
 have HS := hid (fun (o : Obj) => (h.mem.setFull false).below (below1 _ o))
 have HK := hid (fun (o : Obj) => @set_kept c w F o (.bool false))
 have hkl := keyT_len (i := i) (f := f) (by have := validDom_len h.dom; omega) (by have := spell_len f (ok_plain f h.ok) (FmR.fitF _ _ h.fm); have := h.size; omega)
 obtain ⟨A, cap, rfl⟩ := FmR.form h.fm
 obtain ⟨AA, acap, a0, a0l⟩ := h.mem.mkr.all_cell
 have m0 := h.mem.mv.cell
 have m0l := h.mem.mv.lt
 have f0 := h.mem.fv.cell
 have f0f := h.mem.fv.free
 have f0l := h.mem.fv.lt
 have hdl := validDom_len h.dom
 have e1 : (f.op == (1 : Int)) = false := by simp; omega
 have e2 : (f.op == (2 : Int)) = false := by simp; omega
 have e3 : decide ((4000 : Int) < (st.all.length : Int)) = false := by simp at hal ⊢; omega
 have e4 : ((i : Int) == (ds.length : Int)) = false := by simp; omega
 rw [hfu] at f0
 clear h hc hkn
 unfold GV.args
 go_enter Tryz.func39, Tryz.ntmps39
 go_upto_region 4 with (fail)
 have hg := HS.out (.cells #[.int .i64 f.op, .string f.name, .int .i64 f.cmp, .int .i64 f.num, .slice A f.kids.length cap] 24)
 have hk := HK.out (.cells #[.int .i64 f.op, .string f.name, .int .i64 f.cmp, .int .i64 f.num, .slice A f.kids.length cap] 24)
 have HG := hid (And.intro hg hk)
 have hbx := Blk.new' (w.setCell ⟨c.Fv, 0, none⟩ (.bool false)) 24 #[.int .i64 f.op, .string f.name, .int .i64 f.cmp, .int .i64 f.num, .slice A f.kids.length cap] (n := w.heap.size) (by simp [World.setCell])
 clear m0 m0l f0 f0f f0l a0 a0l HS HK
 have d0 := hg.dv.cell
 have d0l := hg.dv.lt
 have f0 := hg.fv.cell
 have f0l := hg.fv.lt
 have hwz : w.heap.size < ((w.setCell ⟨c.Fv, 0, none⟩ (.bool false)).alloc (.cells #[.int .i64 f.op, .string f.name, .int .i64 f.cmp, .int .i64 f.num, .slice A f.kids.length cap] 24)).heap.size := by simp [World.setCell]
 generalize ((w.setCell ⟨c.Fv, 0, none⟩ (.bool false)).alloc (.cells #[.int .i64 f.op, .string f.name, .int .i64 f.cmp, .int .i64 f.num, .slice A f.kids.length cap] 24)) = W1 at *
 have HBX := hid hbx
 have b0 : W1.cell? ⟨w.heap.size, 0, none⟩ = some (.int .i64 f.op) := hbx.cell 0
 have b1 : W1.cell? ⟨w.heap.size, 1, none⟩ = some (.string f.name) := hbx.cell 1
 have b2 : W1.cell? ⟨w.heap.size, 2, none⟩ = some (.int .i64 f.cmp) := hbx.cell 2
 have b3 : W1.cell? ⟨w.heap.size, 3, none⟩ = some (.int .i64 f.num) := hbx.cell 3
 have b4 : W1.cell? ⟨w.heap.size, 4, none⟩ = some (.slice A f.kids.length cap) := hbx.cell 4
 clear hg hk hbx
 go_wp2_with fail
 refine (HH.out.spell HG.out.2).mono ?_
 rintro e w3 ⟨rfl, hB3, hb3⟩
 have hgk3 : Keeps (c.kept F) w w3 := HG.out.2.trans (.of_below hb3)
 have htab3 : TabB W1.heap.size w3 := ((HH.out.tab.on (HH.out.belowB hgk3)).mono (by have := HH.out.base.1; omega))
 have HI := hid (itoa_any (B := W1.heap.size) (i : Int) w3 (by constructor <;> omega) htab3)
 have HB3 := hid (And.intro hB3 hb3)
 have hadd : ∀ W, (Op.stringOp .add ⟨(Lib.itoa (i : Int)).toArray⟩ ⟨(spellT f).toArray⟩).run Tryz.prog W = .ok (.string ⟨(keyT i f).toArray⟩) W := fun W => by
  rw [← key_bytes]
  refine run_string_add_sum W _ _ ?_
  have h1 := hkl
  unfold keyT at h1
  rw [List.length_append] at h1
  simp only [ByteArray.size, List.size_toArray]
  omega
 clear b0 b1 b2 b3 b4 d0 d0l f0 f0l hgk3 htab3 hB3 hb3
 go_wp2_with fail
 refine HI.out.mono ?_
 rintro e w4 ⟨rfl, hb4⟩
 have HSTR := hid (Tryz.Builder_String_any_f W1.heap.size W1.heap.size (spellT f) w4 (isB_below HB3.out.1 hb4) (by have := HB3.out.2.size; have := hb4.size; omega))
 have HB4 := hid (HBEL_trans HB3.out.2 hb4)
 clear hb4
 go_wp2_with fail
 refine HSTR.out.mono ?_
 rintro e w5 ⟨rfl, -, hb5⟩
 have hbw5 : Below W1.heap.size W1 w5 := HB4.out.trans hb5
 have hg5 := HG.out.1.below hbw5
 have HB5 := hid hbw5
 have hbx5 := HBX.out.below hbw5 hwz
 have n0 := hg5.nv.cell
 have n0l := hg5.nv.lt
 have hl := Tryz.lookK hg5.done (keyT i f)
 simp only [HKN.out, Option.isSome_some] at hl
 have HG5 := hid hg5
 clear hb5 hbw5 hbx5 hg5 HSTR HI
 go_wp2
 go_ret
 have hg6 := HG5.out
 rw [HST.out] at hg6
 exact ⟨rfl, ⟨F, Z, hg6, fun b hb => Or.inl hb, fun b hb => Or.inl hb⟩, HG.out.2.trans (.of_below HB5.out)⟩
end
end Go.Proofs.YtcigjmlileckhaaGreatDoor
