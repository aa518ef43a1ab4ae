/- Walk of diagram.maker.inner: the node that asks a fact. -/
import Derived.Test.YtcigjmlileckhaaGreatDoorM10
import Derived.Test.YtcigjmlileckhaaGreatDoorM5
import Derived.Deep.RegionLawGrows
/- Walk of diagram.maker.inner: the node that asks a fact. -/
namespace Go.Proofs.YtcigjmlileckhaaGreatDoor
open Go.RowKit
def lastOf (l : List Int) : Int := l.getD (l.length - 1) 0
theorem lastOf_snoc (l : List Int) (x : Int) : lastOf (l ++ [x]) = x := by
 unfold lastOf
 rw [List.getD_eq_getElem?_getD, List.length_append, List.length_singleton, Nat.add_sub_cancel, List.getElem?_append_right (Nat.le_refl _)]
 simp
theorem lastOf_cons (a b : Int) (l : List Int) : lastOf (a :: b :: l) = lastOf (b :: l) := by
 unfold lastOf
 simp [List.getD_eq_getElem?_getD]
theorem merge_snoc : ∀ (last : Int) (ss ks : List Int) (s k : Int), ss.length = ks.length →
  mergeS last (ss ++ [s]) (ks ++ [k]) = if k = lastOf (last :: (mergeS last ss ks).2) then mergeS last ss ks else ((mergeS last ss ks).1 ++ [s], (mergeS last ss ks).2 ++ [k])
 | last, [], [], s, k, _ => by
  simp only [List.nil_append, mergeS, lastOf]
  simp
 | last, a :: ss, b :: ks, s, k, h => by
  have h' : ss.length = ks.length := by simpa using h
  have e : ∀ (x : List Int) (y : List Int), mergeS last (a :: x) (b :: y) = if b = last then mergeS last x y else (a :: (mergeS b x y).1, b :: (mergeS b x y).2) := fun x y => by rw [mergeS]
  rw [List.cons_append, List.cons_append, e, e]
  by_cases hb : b = last
  ·simp only [if_pos hb]; exact merge_snoc last ss ks s k h'
  ·simp only [if_neg hb]
   rw [merge_snoc b ss ks s k h', lastOf_cons]
   split <;> simp
 | _, [], _ :: _, _, _, h => by simp at h
 | _, _ :: _, [], _, _, h => by simp at h
theorem merge_take {starts kids : List Int} (h : starts.length = kids.length) {k : Nat} (hk : k < kids.length) (last : Int) :
  mergeS last (starts.take (k + 1)) (kids.take (k + 1)) = if kids.getD k 0 = lastOf (last :: (mergeS last (starts.take k) (kids.take k)).2) then mergeS last (starts.take k) (kids.take k)
   else ((mergeS last (starts.take k) (kids.take k)).1 ++ [starts.getD k 0], (mergeS last (starts.take k) (kids.take k)).2 ++ [kids.getD k 0]) := by
 rw [List.take_succ_eq_append_getElem hk, List.take_succ_eq_append_getElem (by omega), merge_snoc _ _ _ _ _ (by simp [h])]
 simp [List.getD_eq_getElem?_getD, List.getElem?_eq_getElem hk, List.getElem?_eq_getElem (show k < starts.length by omega)]
theorem merge_short : ∀ (last : Int) (ss ks : List Int), (mergeS last ss ks).2.length ≤ ks.length
 | last, s :: ss, k :: ks => by
  unfold mergeS
  split
  ·have := merge_short last ss ks; simp; omega
  ·have := merge_short k ss ks; simp; omega
 | _, [], _ => by simp [mergeS]
 | _, _ :: _, [] => by simp [mergeS]
theorem merge_mem1 : ∀ (last : Int) (ss ks : List Int), ∀ k ∈ (mergeS last ss ks).1, k ∈ ss
 | last, s :: ss, k :: ks, x, hx => by
  unfold mergeS at hx
  split at hx
  ·exact List.mem_cons_of_mem _ (merge_mem1 last ss ks x hx)
  ·rcases List.mem_cons.1 hx with rfl | hx
   ·simp
   ·exact List.mem_cons_of_mem _ (merge_mem1 k ss ks x hx)
 | _, [], _, _, h => absurd h (by simp [mergeS])
 | _, _ :: _, [], _, h => absurd h (by simp [mergeS])
theorem merge_drop (starts kids : List Int) (h1 : starts ≠ []) (h2 : kids ≠ []) : mergeS (kids.getD 0 0) (starts.drop 1) (kids.drop 1) = mergeS (kids.getD 0 0) starts kids := by
 cases starts with
 | nil => exact absurd rfl h1
 | cons s ss =>
  cases kids with
  | nil => exact absurd rfl h2
  | cons k ks => simp only [List.drop_succ_cons, List.drop_zero, List.getD_cons_zero]; rw [merge_first]
theorem ints_own {w : World} {base : Nat} {e : TypeId} {v : Value} {n : Nat} {xs : List Int} (h : w.ownsRow base e 1 v n (xs.map (.int .i64))) (hf : ∀ x ∈ xs, I64 x) (hl : xs.length * 8 ≤ 140737488355328) : Ints (fun b => v.ownBlock = some b) w v xs := by
 have hn : xs.length = n := by have := h.1; simpa using this
 subst hn
 obtain ⟨A, cap, rfl, h1, h2, h3⟩ := Row.of_own h (by omega)
 refine ⟨⟨A, cap, rfl, h1, by simpa [maxLen] using h2, hl, fun hne => ?_⟩, hf⟩
 obtain ⟨b, off, rfl, _, hc⟩ := h3 hne
 exact ⟨b, off, rfl, rfl, hc⟩
/-- What making a node leaves, its numbers in blocks of the call's own. -/
def MkPostE (w : World) (M : Nat) (F Z : Nat → Prop) (r : Int × List NodeD) (e : Ending) (w' : World) : Prop :=
 e = .returned (.int .i64 r.1) ∧ (∃ F' Z', MkS w' M r.2 F' Z' ∧ (∀ b, F' b → F b ∨ w.heap.size ≤ b) ∧ ∀ b, Z' b → Z b ∨ w.heap.size ≤ b) ∧ Keeps (fun b => ¬ F b) w w'
theorem inner_end {w wr w' : World} {M : Nat} {F Z Zn : Nat → Prop} {r : Int × List NodeD} {e : Ending} (hb : Below w.heap.size w wr) (hz : ∀ b, Zn b → w.heap.size ≤ b) (h : MkPost wr M F (fun b => Z b ∨ Zn b) r e w') : MkPostE w M F Z r e w' := by
 obtain ⟨he, ⟨F', h1, h2⟩, h3⟩ := h
 exact ⟨he, ⟨F', _, h1, fun x hx => (h2 x hx).imp id (fun h => Nat.le_trans hb.size h), fun x hx => hx.imp id (hz x)⟩, (Keeps.of_below hb).trans h3⟩
/-- The kids of a node that is being made: the first alone (the slice that came in), or a row of the call's own. -/
def KidsAre (base : Nat) (wr : World) (kb koff : Nat) (vq : Value) (k0 : Int) (q : List Int) : Prop :=
 (q = [] ∧ vq = .slice (some ⟨kb, koff, none⟩) 1 1) ∨ (q ≠ [] ∧ wr.ownsRow base 3 1 vq (q.length + 1) ((k0 :: q).map (.int .i64)))
theorem KidsAre.open_ {base kb koff : Nat} {wr : World} {vq : Value} {k0 : Int} {q : List Int} (h : KidsAre base wr kb koff vq k0 q) (h0 : wr.cell? ⟨kb, koff, none⟩ = some (.int .i64 k0)) :
  ∃ qb qoff qcap, vq = .slice (some ⟨qb, qoff, none⟩) (q.length + 1) qcap ∧ q.length + 1 ≤ qcap ∧ wr.cell? ⟨qb, qoff + q.length, none⟩ = some (.int .i64 (lastOf (k0 :: q))) := by
 rcases h with ⟨rfl, rfl⟩ | ⟨_, h⟩
 ·exact ⟨kb, koff, 1, rfl, Nat.le_refl _, by simpa [lastOf] using h0⟩
 ·obtain ⟨g, cap, rfl⟩ := own_form h
  have hc := h.cells (g := g) rfl q.length (.int .i64 (lastOf (k0 :: q))) (by
   unfold lastOf
   rw [List.getElem?_map, List.length_cons, Nat.add_sub_cancel, List.getD_eq_getElem?_getD, List.getElem?_eq_getElem (by simp)]; rfl)
  refine ⟨g, 0, cap, rfl, ?_, by rwa [show (⟨g, 0, none⟩ : Addr).add q.length = ⟨g, 0 + q.length, none⟩ from by unfold Addr.add; split <;> simp_all] at hc⟩
  rcases h.2 with ⟨hv, _⟩ | ⟨g', cap', cur, hv, _, _, hle, _⟩
  ·cases hv
  ·injection hv with _ _ hv; omega
/-- The block that the next kid is written to, if it is a row of the call's own. -/
def rowQ (q : List Int) (vq : Value) : Option Nat := if q = [] then none else vq.ownBlock
theorem rowQ_some {q : List Int} {vq : Value} {k : Nat} (h : rowQ q vq = some k) : q ≠ [] ∧ vq.ownBlock = some k := by
 unfold rowQ at h
 split at h
 ·cases h
 ·rename_i hq; exact ⟨hq, h⟩
section kidsAre
variable {base kb koff : Nat} {w w' : World} {vq : Value} {k0 : Int} {q : List Int}
theorem KidsAre.keep {Z : Zone} (h : KidsAre base w kb koff vq k0 q) (hk : Keeps Z w w') (hz : ∀ k, q ≠ [] → vq.ownBlock = some k → Z k) : KidsAre base w' kb koff vq k0 q :=
 h.imp id fun h => ⟨h.1, own_keep h.2 hk fun k hk' => hz k h.1 hk'⟩
theorem KidsAre.alloc (h : KidsAre base w kb koff vq k0 q) (o : Obj) : KidsAre base (w.alloc o) kb koff vq k0 q := h.imp id fun h => ⟨h.1, h.2.alloc o⟩
theorem KidsAre.lt' (h : KidsAre base w kb koff vq k0 q) (hq : q ≠ []) {k : Nat} (hk : vq.ownBlock = some k) : k < w.heap.size := by
 rcases h with ⟨h, _⟩ | ⟨_, h⟩
 ·exact absurd h hq
 ·exact (h.lt k hk).2
theorem KidsAre.ge (h : KidsAre base w kb koff vq k0 q) (hq : q ≠ []) {k : Nat} (hk : vq.ownBlock = some k) : base ≤ k := by
 rcases h with ⟨h, _⟩ | ⟨_, h⟩
 ·exact absurd h hq
 ·exact (h.lt k hk).1
theorem KidsAre.lt {q : List Int} {x : Int} (h : KidsAre base w kb koff vq k0 (q ++ [x])) (k : Nat) (hk : vq.ownBlock = some k) : k < w.heap.size := h.lt' (by simp) hk
theorem KidsAre.form {q : List Int} {x : Int} (h : KidsAre base w kb koff vq k0 (q ++ [x])) : ∃ g cap, vq = .slice (some ⟨g, 0, none⟩) (q.length + 1 + 1) cap := by
 rcases h with ⟨h, _⟩ | ⟨_, h⟩
 ·simp at h
 ·rw [List.length_append, List.length_singleton] at h
  exact own_form h
end kidsAre
theorem oper_append_kids {base kb koff g off c : Nat} {W : World} {vq : Value} {k0 x : Int} {M : List Int} {o : Oper} {a : Act} {K : Act → World → Prop} {Q : Exit → Act → World → Prop} (h : KidsAre base W kb koff vq k0 M) (h0 : W.cell? ⟨kb, koff, none⟩ = some (.int .i64 k0))
  (s y : Operand) (ho : o.op = .call { callee := .builtin .append, args := #[s, y], argTypes := #[28, 28] }) (hs : a.eval s = vq) (hx : a.eval y = .slice (some ⟨g, off, none⟩) 1 c) (hc : W.cell? ⟨g, off, none⟩ = some (.int .i64 x)) (hl : M.length ≤ 2000000) (hb : base ≤ W.heap.size)
  (hK : ∀ v' w', KidsAre base w' kb koff v' k0 (M ++ [x]) → W.grownBy w' (rowQ M vq) → (∀ k, v'.ownBlock = some k → W.heap.size ≤ k ∨ (M ≠ [] ∧ vq.ownBlock = some k)) → K (a.put o.dst v') w') : Oper.wp Tryz.prog o a W K Q := by
 have hc' : ∀ j u, ([.int .i64 x] : List Value)[j]? = some u → W.cell? ⟨g, off + j, none⟩ = some u := fun j u hu => by
  cases j with
  | zero => simp at hu; subst hu; simpa using hc
  | succ j => simp at hu
 rcases h with ⟨rfl, rfl⟩ | ⟨hne, hown⟩
 ·refine oper_append_full s y _ ho Tryz.underlying28 Tryz.eInt hs (olds := [.int .i64 k0]) rfl (fun j u hu => ?_) hx (news := [.int .i64 x]) rfl hc' (by omega) (by unfold maxLen; omega) (by omega) (fun v' w' ho' hg' => hK v' w' (Or.inr ⟨by simp, ?_⟩) (by unfold rowQ; rw [if_pos rfl]; exact hg') (fun k hk => Or.inl (ho'.lt k hk).1))
  ·cases j with
   | zero => simp at hu; subst hu; simpa using h0
   | succ j => simp at hu
  ·have := ho'
   refine ⟨by simp, ?_⟩
   rcases this.2 with ⟨_, h⟩ | ⟨g', cap, cur, e, hg, h⟩
   ·omega
   ·exact Or.inr ⟨g', cap, cur, e, Nat.le_trans hb hg, h⟩
 ·refine oper_append1 s y _ ho Tryz.underlying28 Tryz.eInt hs hown hx (news := [.int .i64 x]) rfl hc' (by simp [Value.oneCell']) (by unfold maxLen; omega) (by omega) hb (fun v' w' ho' hg' hat => hK v' w' (Or.inr ⟨by simp, ?_⟩) (by unfold rowQ; rw [if_neg hne]; exact hg') (fun k hk => ?_))
  ·simpa using ho'
  ·rcases hat with e | e
   ·exact Or.inr ⟨hne, e ▸ hk⟩
   ·rw [hk] at e; injection e with e; exact Or.inl (by omega)
def InnerRel (w wr : World) (i : Int) (kb koff : Nat) (k0 : Int) (m : List Int × List Int) (vc vq : Value) : Prop :=
 Blk wr w.heap.size 55 #[.bool false, .int .i64 i, vc, vq] ∧ wr.ownsRow (w.heap.size + 1) 3 1 vc m.1.length (m.1.map (.int .i64)) ∧ KidsAre (w.heap.size + 1) wr kb koff vq k0 m.2 ∧ (∀ b, vc.ownBlock = some b → vq.ownBlock = some b → False) ∧ Below w.heap.size w wr ∧ w.heap.size + 1 ≤ wr.heap.size
theorem inner_leaf {w wr W : World} {i : Int} {kb koff : Nat} {k0 s x : Int} {m M' : List Int × List Int} {vc vq v5 v6 : Value} (h1 : Blk wr w.heap.size 55 #[.bool false, .int .i64 i, vc, vq])
  (h2 : wr.ownsRow (w.heap.size + 1) 3 1 vc m.1.length (m.1.map (.int .i64))) (h3 : KidsAre (w.heap.size + 1) wr kb koff vq k0 m.2) (h4 : Below w.heap.size w wr) (h5 : w.heap.size + 1 ≤ wr.heap.size)
  (hW : Keeps (fun b => b < wr.heap.size ∧ vc.ownBlock ≠ some b ∧ rowQ m.2 vq ≠ some b) wr W) (ho : W.ownsRow (w.heap.size + 1) 3 1 v5 (m.1.length + 1) (m.1.map (.int .i64) ++ [.int .i64 s])) (hq : KidsAre (w.heap.size + 1) W kb koff v6 k0 (m.2 ++ [x])) (hd : ∀ k, v5.ownBlock = some k → v6.ownBlock = some k → False) (hM : M' = (m.1 ++ [s], m.2 ++ [x])) :
  ∃ (vc vq : Value), InnerRel w ((W.setCell ⟨w.heap.size, 2, none⟩ v5).setCell ⟨w.heap.size, 3, none⟩ v6) i kb koff k0 M' vc vq := by
 subst hM
 have hbz : w.heap.size < wr.heap.size ∧ vc.ownBlock ≠ some w.heap.size ∧ rowQ m.2 vq ≠ some w.heap.size := ⟨by omega, fun h => by have := (h2.lt _ h).1; omega, fun h => by have hv := rowQ_some h; have := h3.ge hv.1 hv.2; omega⟩
 have hsets : Keeps (fun b => b ≠ w.heap.size) W ((W.setCell ⟨w.heap.size, 2, none⟩ v5).setCell ⟨w.heap.size, 3, none⟩ v6) := ((Keeps.refl _ _).setCell (fun _ h => h rfl) _).setCell (fun _ h => h rfl) _
 refine ⟨v5, v6, (((h1.keep hW hbz).set_ 2 v5).set_ 3 v6), ?_, ?_, hd, ?_, ?_⟩
 ·have := own_keep ho hsets (fun k hk e => by have := (ho.lt k hk).1; omega)
  simpa using this
 ·exact hq.keep hsets (fun k hk hv e => by have := hq.ge hk hv; omega)
 ·refine keeps_below ?_ (Nat.le_refl _)
  refine (below_keeps h4).trans ((hW.mono fun b _ hb => ⟨by omega, fun h => by have := (h2.lt _ h).1; omega, fun h => by have hv := rowQ_some h; have := h3.ge hv.1 hv.2; omega⟩).trans (hsets.mono fun b _ hb e => by omega))
 ·have := hW.size; have := hsets.size; omega
set_option maxRecDepth 100000 in
set_option maxHeartbeats 4000000 in
theorem inner_any (M : Nat) (all : List NodeD) (F Z Zs : Nat → Prop) (i : Int) (vs vk : Value) (starts kids : List Int) (w : World) (h : MkS w M all F Z) (hs : Ints Zs w vs starts) (hk : Ints Zs w vk kids) (hz : ∀ b, Zs b → ¬ F b)
  (hi : I64 i) (hlen : starts.length = kids.length) (hne : kids ≠ []) (hk2 : kids.length ≤ 2000000) (hall : all.length ≤ 1000000) (htab : TabB w.heap.size w) :
  Calls Tryz.prog 46 #[.pointer (some ⟨M, 0, none⟩), .int .i64 i, vs, vk] w (MkPostE w M F Z (innerS all i starts kids)) := by
 have hne' : starts ≠ [] := by intro e; subst e; simp at hlen; exact hne (List.eq_nil_of_length_eq_zero hlen.symm)
 obtain ⟨sb, soff, scap, rfl, hzs, hsl, hsc, hscell⟩ := hs.open_ hne'
 obtain ⟨kb, koff, kcap, rfl, hzk, hkl, hkc, hkcell⟩ := hk.open_ hne
 have hl0 : 0 < kids.length := List.length_pos_iff.2 hne
 obtain ⟨⟨A', c', e1, e2, e3, e4, -⟩, hkf⟩ := hk
 injection e1 with q1 q2 q3
 subst q3
 clear q1 q2
 have h0 := hkcell 0 hl0
 rw [Nat.add_zero] at h0
 have hkc1 : (1 : Int) ≤ (kcap : Int) := by omega
 have HT := hid (fun (k : Nat) (hk : k < kids.length) => merge_take hlen hk (kids.getD 0 0))
 have HMC := hid (fun x (hx : x ∈ (mergeS (kids.getD 0 0) starts kids).1) => hs.fit x (merge_mem1 _ _ _ x hx))
 have HLEN := hid hlen
 clear hlen
 go_enter Tryz.func46, Tryz.ntmps46
 go_wp2
 have HSH := hid (fun (k : Nat) => merge_short (kids.getD 0 0) (starts.take k) (kids.take k))
 have HEND := hid (show innerS all i starts kids = if (mergeS (kids.getD 0 0) starts kids).2 = [] then (kids.getD 0 0, all) else nodeS all ⟨false, i, (mergeS (kids.getD 0 0) starts kids).1, kids.getD 0 0 :: (mergeS (kids.getD 0 0) starts kids).2⟩ from rfl)
 have HS := hid hscell
 have HKC := hid hkcell
 have HM := hid h
 have HZ := hid hz
 clear hscell hkcell h hz h0 hs
 go_loopw [18] (fun ix wr => ∃ (k : Nat) (vc vq : Value), k ≤ kids.length ∧ ix = .int .i64 k ∧ InnerRel w wr i kb koff (kids.getD 0 0) (mergeS (kids.getD 0 0) (starts.take k) (kids.take k)) vc vq) (fun ix _ => kids.length - (intOf ix).toNat)
 case atStart =>
  refine ⟨0, .slice none 0 0, .slice (some ⟨kb, koff, none⟩) 1 1, Nat.zero_le _, rfl, Blk.new w _ _, World.ownsRow_nil _ _ _ _, Or.inl ⟨rfl, rfl⟩, fun b hb => by simp [Value.ownBlock] at hb, below1 w _, by simp⟩
 case round =>
  obtain ⟨k, vc, vq, hk, rfl, hbox, hcu, hki, hdis, hbel, hsz⟩ := hrel
  by_cases hlt : k < kids.length
  ·have hsb : sb < w.heap.size := lt_of_cell (HS.out k (by have := HLEN.out; omega))
   have hkb : kb < w.heap.size := lt_of_cell (HKC.out k hlt)
   have hc1 := (hbel.cell (p := ⟨kb, koff + k, none⟩) hkb).trans (HKC.out k hlt)
   have hc2 := (hbel.cell (p := ⟨sb, soff + k, none⟩) hsb).trans (HS.out k (by have := HLEN.out; omega))
   have hc0 := (hbel.cell (p := ⟨kb, koff, none⟩) hkb).trans (HKC.out 0 hl0)
   obtain ⟨qb, qoff, qcap, hvq, hqc, hqcell⟩ := hki.open_ hc0
   have hqb := lt_of_cell hqcell
   have b2 : wr.cell? ⟨w.heap.size, 2, none⟩ = some vc := hbox.cell 2
   have b3 : wr.cell? ⟨w.heap.size, 3, none⟩ = some vq := hbox.cell 3
   have htk := HT.out k hlt
   have hsh : (mergeS (kids.getD 0 0) (starts.take k) (kids.take k)).2.length ≤ 2000000 := Nat.le_trans (HSH.out k) (by simp; omega)
   have hlk : k < starts.length := by have := HLEN.out; omega
   have HLC := hid (show (mergeS (kids.getD 0 0) (starts.take k) (kids.take k)).1.length ≤ 2000000 from by rw [merge_len]; exact hsh)
   generalize hm : mergeS (kids.getD 0 0) (starts.take k) (kids.take k) = m at *
   generalize hlast : lastOf (kids.getD 0 0 :: m.2) = last at *
   have HTK := hid htk
   have HR := hid (And.intro hbox (And.intro hcu (And.intro hki (And.intro hdis (And.intro hbel hsz)))))
   have HVQ := hid hvq
   have HMM := hid (And.intro hm hlast)
   clear htk hbox hcu hki hdis hbel hsz hm hlast
   generalize kids.getD k 0 = x at *
   generalize starts.getD k 0 = s at *
   generalize kids.getD 0 0 = k0 at *
   subst hvq
   have q1 : (0 : Int) ≤ (m.2.length : Int) := by omega
   have q2 : m.2.length < m.2.length + 1 := by omega
   have hsz := HR.out.2.2.2.2.2
   by_cases hxl : x = last
   ·have hx : (x != last) = false := by simp [hxl]
    have HN := hid ((HTK.out).trans (if_pos hxl))
    clear hxl
    go_wp2
    go_roundw
    case rel =>
     refine ⟨k + 1, vc, .slice (some ⟨qb, qoff, none⟩) (m.2.length + 1) qcap, by omega, by go_num, ?_⟩
     rw [HN.out]
     exact HR.out
    case measure => simp [intOf]; omega
   ·have hx : (x != last) = true := by simp [hxl]
    have HN := hid ((HTK.out).trans (if_neg hxl))
    clear hxl
    go_wp2
    have hlc := HLC.out
    have HVQ := hid (fun k (hq : m.2 ≠ []) (hk : (Value.slice (some ⟨qb, qoff, none⟩) (m.2.length + 1) qcap).ownBlock = some k) => HR.out.2.2.1.lt' hq hk)
    have HVC := hid (fun k (hk : vc.ownBlock = some k) => (HR.out.2.1.lt k hk).2)
    have HDIS := hid HR.out.2.2.2.1
    have HBOX := hid HR.out.1
    have HBZ := hid (show w.heap.size < wr.heap.size ∧ vc.ownBlock ≠ some w.heap.size ∧ rowQ m.2 (Value.slice (some ⟨qb, qoff, none⟩) (m.2.length + 1) qcap) ≠ some w.heap.size from ⟨by omega, fun h => by have := (HR.out.2.1.lt _ h).1; omega, fun h => by have hv := rowQ_some h; have := HR.out.2.2.1.ge hv.1 hv.2; omega⟩)
    have HOLD := hid (fun b (hb : b < w.heap.size) => (show b < wr.heap.size ∧ vc.ownBlock ≠ some b ∧ rowQ m.2 (Value.slice (some ⟨qb, qoff, none⟩) (m.2.length + 1) qcap) ≠ some b from ⟨by omega, fun h => by have := (HR.out.2.1.lt _ h).1; omega, fun h => by have hv := rowQ_some h; have := HR.out.2.2.1.ge hv.1 hv.2; omega⟩))
    have HKB := hid (fun W (hW : Keeps (fun b => b < wr.heap.size ∧ vc.ownBlock ≠ some b ∧ rowQ m.2 (Value.slice (some ⟨qb, qoff, none⟩) (m.2.length + 1) qcap) ≠ some b) wr W) => (show W.cell? ⟨kb, koff, none⟩ = some (.int .i64 k0) from hW.cell (HOLD.out kb hkb) hc0))
    have HS := hid (fun W (hW : Keeps (fun b => b < wr.heap.size ∧ vc.ownBlock ≠ some b ∧ rowQ m.2 (Value.slice (some ⟨qb, qoff, none⟩) (m.2.length + 1) qcap) ≠ some b) wr W) => (show W.cell? ⟨w.heap.size, 2, none⟩ = some vc ∧ W.cell? ⟨w.heap.size, 3, none⟩ = some (.slice (some ⟨qb, qoff, none⟩) (m.2.length + 1) qcap) ∧ W.cell? ⟨sb, soff + k, none⟩ = some (.int .i64 s) from ⟨hW.cell HBZ.out b2, hW.cell HBZ.out b3, hW.cell (HOLD.out sb hsb) hc2⟩))
    have HLEAF := hid (fun W v5 v6 (hW : Keeps (fun b => b < wr.heap.size ∧ vc.ownBlock ≠ some b ∧ rowQ m.2 (Value.slice (some ⟨qb, qoff, none⟩) (m.2.length + 1) qcap) ≠ some b) wr W) (ho : W.ownsRow (w.heap.size + 1) 3 1 v5 (m.1.length + 1) (m.1.map (.int .i64) ++ [.int .i64 s])) (hq : KidsAre (w.heap.size + 1) W kb koff v6 k0 (m.2 ++ [x])) (hd : ∀ k, v5.ownBlock = some k → v6.ownBlock = some k → False) =>
     inner_leaf (M' := mergeS k0 (starts.take (k + 1)) (kids.take (k + 1))) HR.out.1 HR.out.2.1 HR.out.2.2.1 HR.out.2.2.2.2.1 HR.out.2.2.2.2.2 hW ho hq hd HN.out)
    have HI0 := hid (show Keeps (fun b => b < wr.heap.size ∧ vc.ownBlock ≠ some b ∧ rowQ m.2 (Value.slice (some ⟨qb, qoff, none⟩) (m.2.length + 1) qcap) ≠ some b) wr wr.drew from (Keeps.refl _ _).drew)
    have HC0 := hid (show wr.drew.ownsRow (w.heap.size + 1) 3 1 vc m.1.length (m.1.map (.int .i64)) from HR.out.2.1)
    have HQ0 := hid (show KidsAre (w.heap.size + 1) wr.drew kb koff (.slice (some ⟨qb, qoff, none⟩) (m.2.length + 1) qcap) k0 m.2 from HR.out.2.2.1)
    refine wp_region_S 14 (fun W => W.cell? ⟨w.heap.size, 2, none⟩ = some vc ∧ W.cell? ⟨w.heap.size, 3, none⟩ = some (.slice (some ⟨qb, qoff, none⟩) (m.2.length + 1) qcap) ∧ W.cell? ⟨sb, soff + k, none⟩ = some (.int .i64 s)) (by kernel_rfl) ?_
    have hS := HS.out _ HI0.out
    generalize wr.drew = W0 at *
    clear b2 b3 hc0 hc1 hc2 hqcell
    (refine wpAnyS_take (i := 0) (v := ?_) rfl (by kernel_rfl) (by kernel_rfl) (fun _ _ _ h => h) (Or.inl ⟨by rfl, ?_⟩) hS ?_; rotate_left; (intro w hSw; obtain ⟨h1, h2, h3⟩ := hSw; go_simp; (try with_reducible rfl)); ((try simp only [Act.put]); (try simp only [nrA]); (try simp only [nrB]); (try simp only [nrC])))
    (refine wpAnyS_take (i := 1) (v := ?_) rfl (by kernel_rfl) (by kernel_rfl) (fun _ _ _ h => h) (Or.inl ⟨by rfl, ?_⟩) hS ?_; rotate_left; (intro w hSw; obtain ⟨h1, h2, h3⟩ := hSw; go_simp; (try with_reducible rfl)); ((try simp only [Act.put]); (try simp only [nrA]); (try simp only [nrB]); (try simp only [nrC])))
    (refine wpAnyS_take (i := 2) (v := ?_) rfl (by kernel_rfl) (by kernel_rfl) (fun _ _ _ h => h) (Or.inl ⟨by rfl, ?_⟩) hS ?_; rotate_left; (intro w hSw; obtain ⟨h1, h2, h3⟩ := hSw; go_simp; (try with_reducible rfl)); ((try simp only [Act.put]); (try simp only [nrA]); (try simp only [nrB]); (try simp only [nrC])))
    (refine wpAnyS_take (i := 3) (v := ?_) rfl (by kernel_rfl) (by kernel_rfl) (fun _ _ _ h => h) (Or.inl ⟨by rfl, ?_⟩) hS ?_; rotate_left; (intro w hSw; obtain ⟨h1, h2, h3⟩ := hSw; go_simp; (try with_reducible rfl)); ((try simp only [Act.put]); (try simp only [nrA]); (try simp only [nrB]); (try simp only [nrC])))
    (refine wpAnyS_take (i := 4) (v := ?_) rfl (by kernel_rfl) (by kernel_rfl) (fun _ _ _ h => h) (Or.inl ⟨by rfl, ?_⟩) hS ?_; rotate_left; (intro w hSw; obtain ⟨h1, h2, h3⟩ := hSw; go_simp; (try with_reducible rfl)); ((try simp only [Act.put]); (try simp only [nrA]); (try simp only [nrB]); (try simp only [nrC])))
    (refine wpAnyS_take (i := 5) (v := ?_) rfl (by kernel_rfl) (by kernel_rfl) (fun _ _ _ h => h) (Or.inl ⟨by rfl, ?_⟩) hS ?_; rotate_left; (intro w hSw; obtain ⟨h1, h2, h3⟩ := hSw; go_simp; (try with_reducible rfl)); ((try simp only [Act.put]); (try simp only [nrA]); (try simp only [nrB]); (try simp only [nrC])))
    (refine wpAnyS_take (i := 8) (v := ?_) rfl (by kernel_rfl) (by kernel_rfl) (fun _ _ _ h => h) (Or.inl ⟨by rfl, ?_⟩) hS ?_; rotate_left; (intro w hSw; obtain ⟨h1, h2, h3⟩ := hSw; go_simp; (try with_reducible rfl)); ((try simp only [Act.put]); (try simp only [nrA]); (try simp only [nrB]); (try simp only [nrC])))
    (refine wpAnyS_take (i := 9) (v := ?_) rfl (by kernel_rfl) (by kernel_rfl) (fun _ _ _ h => h) (Or.inl ⟨by rfl, ?_⟩) hS ?_; rotate_left; (intro w hSw; obtain ⟨h1, h2, h3⟩ := hSw; go_simp; (try with_reducible rfl)); ((try simp only [Act.put]); (try simp only [nrA]); (try simp only [nrB]); (try simp only [nrC])))
    (refine wpAnyS_take0 (i := 10) (v := ?_) rfl (by kernel_rfl) (by kernel_rfl) (fun _ _ _ h => h) (Or.inl ⟨by rfl, ?_⟩) (Or.inr hS) ?_; rotate_left; (intro w hSw; clear hSw; go_simp; (try with_reducible rfl)); ((try simp only [Act.put]); (try simp only [nrA]); (try simp only [nrB]); (try simp only [nrC])))
    refine wpAnyS_two (i := 6) (j := 11) (by kernel_rfl) rfl rfl rfl rfl (fun K hK => ?_) (fun K hK => ?_)
    ·
     go_wp2_with fail
     refine hK _ _ (Or.inr (HS.out _ (HI0.out.alloc (.cells #[.int .i64 s] 3)))) ?_
     clear hK K
     ((try simp only [Act.put]); (try simp only [nrA]); (try simp only [nrB]); (try simp only [nrC]))
     have HI1 := hid (HI0.out.alloc (.cells #[.int .i64 s] 3))
     have HZ1 := hid (show W0.heap.size < (W0.alloc (.cells #[.int .i64 s] 3)).heap.size by simp)
     have HA1 := hid ((Blk.new W0 3 #[.int .i64 s]).cell 0)
     have hGA := hid (show wr.heap.size ≤ W0.heap.size from HI0.out.size)
     have HC1 := hid (HC0.out.alloc (.cells #[.int .i64 s] 3))
     have HQ1 := hid (HQ0.out.alloc (.cells #[.int .i64 s] 3))
     generalize (W0.alloc (.cells #[.int .i64 s] 3)) = W1 at *
     have hS := HS.out _ HI1.out
     refine wpAnyS_two (i := 7) (j := 11) (by kernel_rfl) rfl rfl rfl rfl (fun K hK => ?_) (fun K hK => ?_)
     ·
      refine oper_append1 (.tmp 34) (.tmp 39) _ rfl Tryz.underlying28 Tryz.eInt rfl HC1.out rfl (news := [.int .i64 s]) rfl (one_cell HA1.out) (by simp [Value.oneCell']) (by unfold maxLen; omega) (by omega) (by have := HI1.out.size; omega) ?_
      intro v5 W2 hown5 hg5 hat5
      refine hK _ _ (Or.inr (HS.out _ (HI1.out.grown hg5 (fun k hk _ hz => hz.2.1 hk)))) ?_
      clear hK K
      ((try simp only [Act.put]); (try simp only [nrA]); (try simp only [nrB]); (try simp only [nrC]))
      have HI2 := hid (HI1.out.grown hg5 (fun k hk _ hz => hz.2.1 hk))
      have HC2 := hid hown5
      have HQ2 := hid (HQ1.out.keep (Z := fun b => vc.ownBlock ≠ some b) ((Keeps.refl _ _).grown hg5 (fun k hk _ hz => hz hk)) (fun k _ hk hv => HDIS.out k hv hk))
      have HVC5 := hid (fun k (hk : v5.ownBlock = some k) => (show vc.ownBlock = some k ∨ wr.heap.size ≤ k from (by have hz := HI1.out.size; rcases hat5 with h | h; exact Or.inl (h ▸ hk); rw [hk] at h; injection h with h; exact Or.inr (by omega))))
      have HZ2 := hid hg5.size
      clear hown5 hg5 hat5
      have hS := HS.out _ HI2.out
      (refine wpAnyS_take0 (i := 13) (v := ?_) rfl (by kernel_rfl) (by kernel_rfl) (fun _ _ _ h => h) (Or.inl ⟨by rfl, ?_⟩) (Or.inr hS) ?_; rotate_left; (intro w hSw; clear hSw; go_simp; (try with_reducible rfl)); ((try simp only [Act.put]); (try simp only [nrA]); (try simp only [nrB]); (try simp only [nrC])))
      refine wpAnyS_one (i := 11) (by kernel_rfl) rfl rfl (fun K hK => ?_)
      go_wp2_with fail
      refine hK _ _ (Or.inr (HS.out _ (HI2.out.alloc (.cells #[.int .i64 x] 3)))) ?_
      clear hK K
      ((try simp only [Act.put]); (try simp only [nrA]); (try simp only [nrB]); (try simp only [nrC]))
      have HI3 := hid (HI2.out.alloc (.cells #[.int .i64 x] 3))
      have HZ3 := hid (show W2.heap.size < (W2.alloc (.cells #[.int .i64 x] 3)).heap.size by simp)
      have HB3 := hid ((Blk.new W2 3 #[.int .i64 x]).cell 0)
      have hGB := hid (show wr.heap.size ≤ W2.heap.size from HI2.out.size)
      have HC3 := hid (HC2.out.alloc (.cells #[.int .i64 x] 3))
      have HQ3 := hid (HQ2.out.alloc (.cells #[.int .i64 x] 3))
      generalize (W2.alloc (.cells #[.int .i64 x] 3)) = W3 at *
      have hS := HS.out _ HI3.out
      refine wpAnyS_one (i := 12) (by kernel_rfl) rfl rfl (fun K hK => ?_)
      refine oper_append_kids (M := m.2) HQ3.out (HKB.out _ HI3.out) (.tmp 42) (.tmp 44) rfl rfl rfl HB3.out (by omega) (by have := HI3.out.size; omega) ?_
      intro v6 W4 hki6 hg6 hat6
      refine hK _ _ (Or.inr (HS.out _ (HI3.out.grown hg6 (fun k hk _ hz => hz.2.2 hk)))) ?_
      clear hK K
      ((try simp only [Act.put]); (try simp only [nrA]); (try simp only [nrB]); (try simp only [nrC]))
      have HI4 := hid (HI3.out.grown hg6 (fun k hk _ hz => hz.2.2 hk))
      have HQ4 := hid hki6
      have HVQ6 := hid (fun k (hk : v6.ownBlock = some k) => (show (Value.slice (some ⟨qb, qoff, none⟩) (m.2.length + 1) qcap).ownBlock = some k ∨ wr.heap.size ≤ k from (by have hz := HI3.out.size; rcases hat6 k hk with h | h; exact Or.inr (by omega); exact Or.inl h.2)))
      have HC4 := hid (own_keep (Z := fun b => rowQ m.2 (Value.slice (some ⟨qb, qoff, none⟩) (m.2.length + 1) qcap) ≠ some b) HC3.out ((Keeps.refl _ _).grown hg6 (fun k hk _ hz => hz hk)) (fun k hk hv => (by have hv2 := rowQ_some hv; rcases HVC5.out k hk with h | h; exact HDIS.out k h hv2.2; have := HVQ.out k hv2.1 hv2.2; omega)))
      have HDD := hid (fun k (h5 : v5.ownBlock = some k) (h6 : v6.ownBlock = some k) => (show False from (by have hl := (HC3.out.lt k h5).2; rcases hat6 k h6 with h | h; omega; (rcases HVC5.out k h5 with h' | h'; exact HDIS.out k h' h.2; have := HVQ.out k h.1 h.2; omega))))
      have HZ4 := hid hg6.size
      clear hki6 hg6 hat6
      have hS := HS.out _ HI4.out
      obtain ⟨g5, cap5, rfl⟩ := own_form HC4.out
      obtain ⟨g6, c6, rfl⟩ := HQ4.out.form
      have hbx := (HBOX.out).keep HI4.out HBZ.out
      have x2 := hbx.cell 2
      have x3 := hbx.cell 3
      have y2 := hbx.frozen 2
      have y3 := hbx.frozen 3
      have hblt := hbx.lt
      have HBX := hid hbx
      clear hbx
      refine wpAnyS_one (i := 14) (by kernel_rfl) rfl rfl (fun K hK => ?_)
      go_wp2_with fail
      refine hK _ _ (Or.inl rfl) ?_
      clear hK K
      ((try simp only [Act.put]); (try simp only [nrA]); (try simp only [nrB]); (try simp only [nrC]))
      refine wpAnyS_one (i := 15) (by kernel_rfl) rfl rfl (fun K hK => ?_)
      go_wp2_with fail
      refine hK _ _ (Or.inl rfl) ?_
      clear hK K
      ((try simp only [Act.put]); (try simp only [nrA]); (try simp only [nrB]); (try simp only [nrC]))
      refine wpAnyS_one (i := 16) (by kernel_rfl) rfl rfl (fun K hK => ?_)
      go_wp2_with fail
      refine hK _ _ (Or.inl rfl) ?_
      clear hK K hS
      ((try simp only [Act.put]); (try simp only [nrA]); (try simp only [nrB]); (try simp only [nrC]))
      refine wpAnyS_done (by kernel_rfl) ?_ _
      have HL := hid (HLEAF.out _ _ _ HI4.out HC4.out HQ4.out HDD.out)
      clear x2 x3 y2 y3 hblt
      go_wp2
      go_roundw
      case rel => (obtain ⟨vc1, vq1, hl1⟩ := HL.out; exact ⟨k + 1, vc1, vq1, by omega, by go_num, hl1⟩)
      case measure => simp [intOf]; omega
     ·
      go_wp2_with fail
      refine hK _ _ (Or.inr (HS.out _ (HI1.out.alloc (.cells #[.int .i64 x] 3)))) ?_
      clear hK K
      ((try simp only [Act.put]); (try simp only [nrA]); (try simp only [nrB]); (try simp only [nrC]))
      have HI2 := hid (HI1.out.alloc (.cells #[.int .i64 x] 3))
      have HZ2 := hid (show W1.heap.size < (W1.alloc (.cells #[.int .i64 x] 3)).heap.size by simp)
      have HB2 := hid ((Blk.new W1 3 #[.int .i64 x]).cell 0)
      have hGB := hid (show wr.heap.size ≤ W1.heap.size from HI1.out.size)
      have HA2 := hid (cell_alloc HA1.out (.cells #[.int .i64 x] 3))
      have HC2 := hid (HC1.out.alloc (.cells #[.int .i64 x] 3))
      have HQ2 := hid (HQ1.out.alloc (.cells #[.int .i64 x] 3))
      generalize (W1.alloc (.cells #[.int .i64 x] 3)) = W2 at *
      have hS := HS.out _ HI2.out
      refine wpAnyS_one (i := 7) (by kernel_rfl) rfl rfl (fun K hK => ?_)
      refine oper_append1 (.tmp 34) (.tmp 39) _ rfl Tryz.underlying28 Tryz.eInt rfl HC2.out rfl (news := [.int .i64 s]) rfl (one_cell HA2.out) (by simp [Value.oneCell']) (by unfold maxLen; omega) (by omega) (by have := HI2.out.size; omega) ?_
      intro v5 W3 hown5 hg5 hat5
      refine hK _ _ (Or.inr (HS.out _ (HI2.out.grown hg5 (fun k hk _ hz => hz.2.1 hk)))) ?_
      clear hK K
      ((try simp only [Act.put]); (try simp only [nrA]); (try simp only [nrB]); (try simp only [nrC]))
      have HI3 := hid (HI2.out.grown hg5 (fun k hk _ hz => hz.2.1 hk))
      have HC3 := hid hown5
      have HQ3 := hid (HQ2.out.keep (Z := fun b => vc.ownBlock ≠ some b) ((Keeps.refl _ _).grown hg5 (fun k hk _ hz => hz hk)) (fun k _ hk hv => HDIS.out k hv hk))
      have HVC5 := hid (fun k (hk : v5.ownBlock = some k) => (show vc.ownBlock = some k ∨ wr.heap.size ≤ k from (by have hz := HI2.out.size; rcases hat5 with h | h; exact Or.inl (h ▸ hk); rw [hk] at h; injection h with h; exact Or.inr (by omega))))
      have HB3 := hid (hg5.cell HB2.out (fun h => by have h1 := HVC.out _ h.symm; have h2 := hGB.out; simp at h1; omega))
      have HZ3 := hid hg5.size
      clear hown5 hg5 hat5
      have hS := HS.out _ HI3.out
      (refine wpAnyS_take0 (i := 13) (v := ?_) rfl (by kernel_rfl) (by kernel_rfl) (fun _ _ _ h => h) (Or.inl ⟨by rfl, ?_⟩) (Or.inr hS) ?_; rotate_left; (intro w hSw; clear hSw; go_simp; (try with_reducible rfl)); ((try simp only [Act.put]); (try simp only [nrA]); (try simp only [nrB]); (try simp only [nrC])))
      refine wpAnyS_one (i := 12) (by kernel_rfl) rfl rfl (fun K hK => ?_)
      refine oper_append_kids (M := m.2) HQ3.out (HKB.out _ HI3.out) (.tmp 42) (.tmp 44) rfl rfl rfl HB3.out (by omega) (by have := HI3.out.size; omega) ?_
      intro v6 W4 hki6 hg6 hat6
      refine hK _ _ (Or.inr (HS.out _ (HI3.out.grown hg6 (fun k hk _ hz => hz.2.2 hk)))) ?_
      clear hK K
      ((try simp only [Act.put]); (try simp only [nrA]); (try simp only [nrB]); (try simp only [nrC]))
      have HI4 := hid (HI3.out.grown hg6 (fun k hk _ hz => hz.2.2 hk))
      have HQ4 := hid hki6
      have HVQ6 := hid (fun k (hk : v6.ownBlock = some k) => (show (Value.slice (some ⟨qb, qoff, none⟩) (m.2.length + 1) qcap).ownBlock = some k ∨ wr.heap.size ≤ k from (by have hz := HI3.out.size; rcases hat6 k hk with h | h; exact Or.inr (by omega); exact Or.inl h.2)))
      have HC4 := hid (own_keep (Z := fun b => rowQ m.2 (Value.slice (some ⟨qb, qoff, none⟩) (m.2.length + 1) qcap) ≠ some b) HC3.out ((Keeps.refl _ _).grown hg6 (fun k hk _ hz => hz hk)) (fun k hk hv => (by have hv2 := rowQ_some hv; rcases HVC5.out k hk with h | h; exact HDIS.out k h hv2.2; have := HVQ.out k hv2.1 hv2.2; omega)))
      have HDD := hid (fun k (h5 : v5.ownBlock = some k) (h6 : v6.ownBlock = some k) => (show False from (by have hl := (HC3.out.lt k h5).2; rcases hat6 k h6 with h | h; omega; (rcases HVC5.out k h5 with h' | h'; exact HDIS.out k h' h.2; have := HVQ.out k h.1 h.2; omega))))
      have HZ4 := hid hg6.size
      clear hki6 hg6 hat6
      have hS := HS.out _ HI4.out
      obtain ⟨g5, cap5, rfl⟩ := own_form HC4.out
      obtain ⟨g6, c6, rfl⟩ := HQ4.out.form
      have hbx := (HBOX.out).keep HI4.out HBZ.out
      have x2 := hbx.cell 2
      have x3 := hbx.cell 3
      have y2 := hbx.frozen 2
      have y3 := hbx.frozen 3
      have hblt := hbx.lt
      have HBX := hid hbx
      clear hbx
      refine wpAnyS_one (i := 14) (by kernel_rfl) rfl rfl (fun K hK => ?_)
      go_wp2_with fail
      refine hK _ _ (Or.inl rfl) ?_
      clear hK K
      ((try simp only [Act.put]); (try simp only [nrA]); (try simp only [nrB]); (try simp only [nrC]))
      refine wpAnyS_one (i := 15) (by kernel_rfl) rfl rfl (fun K hK => ?_)
      go_wp2_with fail
      refine hK _ _ (Or.inl rfl) ?_
      clear hK K
      ((try simp only [Act.put]); (try simp only [nrA]); (try simp only [nrB]); (try simp only [nrC]))
      refine wpAnyS_one (i := 16) (by kernel_rfl) rfl rfl (fun K hK => ?_)
      go_wp2_with fail
      refine hK _ _ (Or.inl rfl) ?_
      clear hK K hS
      ((try simp only [Act.put]); (try simp only [nrA]); (try simp only [nrB]); (try simp only [nrC]))
      refine wpAnyS_done (by kernel_rfl) ?_ _
      have HL := hid (HLEAF.out _ _ _ HI4.out HC4.out HQ4.out HDD.out)
      clear x2 x3 y2 y3 hblt
      go_wp2
      go_roundw
      case rel => (obtain ⟨vc1, vq1, hl1⟩ := HL.out; exact ⟨k + 1, vc1, vq1, by omega, by go_num, hl1⟩)
      case measure => simp [intOf]; omega
    ·
     go_wp2_with fail
     refine hK _ _ (Or.inr (HS.out _ (HI0.out.alloc (.cells #[.int .i64 x] 3)))) ?_
     clear hK K
     ((try simp only [Act.put]); (try simp only [nrA]); (try simp only [nrB]); (try simp only [nrC]))
     have HI1 := hid (HI0.out.alloc (.cells #[.int .i64 x] 3))
     have HZ1 := hid (show W0.heap.size < (W0.alloc (.cells #[.int .i64 x] 3)).heap.size by simp)
     have HB1 := hid ((Blk.new W0 3 #[.int .i64 x]).cell 0)
     have hGB := hid (show wr.heap.size ≤ W0.heap.size from HI0.out.size)
     have HC1 := hid (HC0.out.alloc (.cells #[.int .i64 x] 3))
     have HQ1 := hid (HQ0.out.alloc (.cells #[.int .i64 x] 3))
     generalize (W0.alloc (.cells #[.int .i64 x] 3)) = W1 at *
     have hS := HS.out _ HI1.out
     refine wpAnyS_one (i := 6) (by kernel_rfl) rfl rfl (fun K hK => ?_)
     go_wp2_with fail
     refine hK _ _ (Or.inr (HS.out _ (HI1.out.alloc (.cells #[.int .i64 s] 3)))) ?_
     clear hK K
     ((try simp only [Act.put]); (try simp only [nrA]); (try simp only [nrB]); (try simp only [nrC]))
     have HI2 := hid (HI1.out.alloc (.cells #[.int .i64 s] 3))
     have HZ2 := hid (show W1.heap.size < (W1.alloc (.cells #[.int .i64 s] 3)).heap.size by simp)
     have HA2 := hid ((Blk.new W1 3 #[.int .i64 s]).cell 0)
     have hGA := hid (show wr.heap.size ≤ W1.heap.size from HI1.out.size)
     have HB2 := hid (cell_alloc HB1.out (.cells #[.int .i64 s] 3))
     have HC2 := hid (HC1.out.alloc (.cells #[.int .i64 s] 3))
     have HQ2 := hid (HQ1.out.alloc (.cells #[.int .i64 s] 3))
     generalize (W1.alloc (.cells #[.int .i64 s] 3)) = W2 at *
     have hS := HS.out _ HI2.out
     refine wpAnyS_one (i := 7) (by kernel_rfl) rfl rfl (fun K hK => ?_)
     refine oper_append1 (.tmp 34) (.tmp 39) _ rfl Tryz.underlying28 Tryz.eInt rfl HC2.out rfl (news := [.int .i64 s]) rfl (one_cell HA2.out) (by simp [Value.oneCell']) (by unfold maxLen; omega) (by omega) (by have := HI2.out.size; omega) ?_
     intro v5 W3 hown5 hg5 hat5
     refine hK _ _ (Or.inr (HS.out _ (HI2.out.grown hg5 (fun k hk _ hz => hz.2.1 hk)))) ?_
     clear hK K
     ((try simp only [Act.put]); (try simp only [nrA]); (try simp only [nrB]); (try simp only [nrC]))
     have HI3 := hid (HI2.out.grown hg5 (fun k hk _ hz => hz.2.1 hk))
     have HC3 := hid hown5
     have HQ3 := hid (HQ2.out.keep (Z := fun b => vc.ownBlock ≠ some b) ((Keeps.refl _ _).grown hg5 (fun k hk _ hz => hz hk)) (fun k _ hk hv => HDIS.out k hv hk))
     have HVC5 := hid (fun k (hk : v5.ownBlock = some k) => (show vc.ownBlock = some k ∨ wr.heap.size ≤ k from (by have hz := HI2.out.size; rcases hat5 with h | h; exact Or.inl (h ▸ hk); rw [hk] at h; injection h with h; exact Or.inr (by omega))))
     have HB3 := hid (hg5.cell HB2.out (fun h => by have h1 := HVC.out _ h.symm; have h2 := hGB.out; simp at h1; omega))
     have HZ3 := hid hg5.size
     clear hown5 hg5 hat5
     have hS := HS.out _ HI3.out
     (refine wpAnyS_take0 (i := 13) (v := ?_) rfl (by kernel_rfl) (by kernel_rfl) (fun _ _ _ h => h) (Or.inl ⟨by rfl, ?_⟩) (Or.inr hS) ?_; rotate_left; (intro w hSw; clear hSw; go_simp; (try with_reducible rfl)); ((try simp only [Act.put]); (try simp only [nrA]); (try simp only [nrB]); (try simp only [nrC])))
     refine wpAnyS_one (i := 12) (by kernel_rfl) rfl rfl (fun K hK => ?_)
     refine oper_append_kids (M := m.2) HQ3.out (HKB.out _ HI3.out) (.tmp 42) (.tmp 44) rfl rfl rfl HB3.out (by omega) (by have := HI3.out.size; omega) ?_
     intro v6 W4 hki6 hg6 hat6
     refine hK _ _ (Or.inr (HS.out _ (HI3.out.grown hg6 (fun k hk _ hz => hz.2.2 hk)))) ?_
     clear hK K
     ((try simp only [Act.put]); (try simp only [nrA]); (try simp only [nrB]); (try simp only [nrC]))
     have HI4 := hid (HI3.out.grown hg6 (fun k hk _ hz => hz.2.2 hk))
     have HQ4 := hid hki6
     have HVQ6 := hid (fun k (hk : v6.ownBlock = some k) => (show (Value.slice (some ⟨qb, qoff, none⟩) (m.2.length + 1) qcap).ownBlock = some k ∨ wr.heap.size ≤ k from (by have hz := HI3.out.size; rcases hat6 k hk with h | h; exact Or.inr (by omega); exact Or.inl h.2)))
     have HC4 := hid (own_keep (Z := fun b => rowQ m.2 (Value.slice (some ⟨qb, qoff, none⟩) (m.2.length + 1) qcap) ≠ some b) HC3.out ((Keeps.refl _ _).grown hg6 (fun k hk _ hz => hz hk)) (fun k hk hv => (by have hv2 := rowQ_some hv; rcases HVC5.out k hk with h | h; exact HDIS.out k h hv2.2; have := HVQ.out k hv2.1 hv2.2; omega)))
     have HDD := hid (fun k (h5 : v5.ownBlock = some k) (h6 : v6.ownBlock = some k) => (show False from (by have hl := (HC3.out.lt k h5).2; rcases hat6 k h6 with h | h; omega; (rcases HVC5.out k h5 with h' | h'; exact HDIS.out k h' h.2; have := HVQ.out k h.1 h.2; omega))))
     have HZ4 := hid hg6.size
     clear hki6 hg6 hat6
     have hS := HS.out _ HI4.out
     obtain ⟨g5, cap5, rfl⟩ := own_form HC4.out
     obtain ⟨g6, c6, rfl⟩ := HQ4.out.form
     have hbx := (HBOX.out).keep HI4.out HBZ.out
     have x2 := hbx.cell 2
     have x3 := hbx.cell 3
     have y2 := hbx.frozen 2
     have y3 := hbx.frozen 3
     have hblt := hbx.lt
     have HBX := hid hbx
     clear hbx
     refine wpAnyS_one (i := 14) (by kernel_rfl) rfl rfl (fun K hK => ?_)
     go_wp2_with fail
     refine hK _ _ (Or.inl rfl) ?_
     clear hK K
     ((try simp only [Act.put]); (try simp only [nrA]); (try simp only [nrB]); (try simp only [nrC]))
     refine wpAnyS_one (i := 15) (by kernel_rfl) rfl rfl (fun K hK => ?_)
     go_wp2_with fail
     refine hK _ _ (Or.inl rfl) ?_
     clear hK K
     ((try simp only [Act.put]); (try simp only [nrA]); (try simp only [nrB]); (try simp only [nrC]))
     refine wpAnyS_one (i := 16) (by kernel_rfl) rfl rfl (fun K hK => ?_)
     go_wp2_with fail
     refine hK _ _ (Or.inl rfl) ?_
     clear hK K hS
     ((try simp only [Act.put]); (try simp only [nrA]); (try simp only [nrB]); (try simp only [nrC]))
     refine wpAnyS_done (by kernel_rfl) ?_ _
     have HL := hid (HLEAF.out _ _ _ HI4.out HC4.out HQ4.out HDD.out)
     clear x2 x3 y2 y3 hblt
     go_wp2
     go_roundw
     case rel => (obtain ⟨vc1, vq1, hl1⟩ := HL.out; exact ⟨k + 1, vc1, vq1, by omega, by go_num, hl1⟩)
     case measure => simp [intOf]; omega
  ·obtain rfl : k = kids.length := by omega
   have hst : starts.take kids.length = starts := by rw [← HLEN.out]; exact List.take_length
   rw [hst, List.take_length] at hcu hki
   have hc0 : wr.cell? ⟨kb, koff, none⟩ = some (.int .i64 (kids.getD 0 0)) := (hbel.cell (p := ⟨kb, koff, none⟩) hkl).trans (HKC.out 0 hl0)
   obtain ⟨qb, qoff, qcap, hvq, hqc, -⟩ := hki.open_ hc0
   have b3 : wr.cell? ⟨w.heap.size, 3, none⟩ = some vq := hbox.cell 3
   have hsh : (mergeS (kids.getD 0 0) starts kids).2.length ≤ 2000000 := Nat.le_trans (merge_short _ _ _) hk2
   have hml := merge_len (kids.getD 0 0) starts kids
   generalize hm : mergeS (kids.getD 0 0) starts kids = m at *
   have HR := hid (And.intro hbox (And.intro hcu (And.intro hki (And.intro hdis (And.intro hbel hsz)))))
   have HVQ := hid hvq
   have HMM := hid hm
   have HML := hid hml
   have HK0 := hid (hkf _ (mem_getD hl0))
   have HMD := hid (merge_drop starts kids hne' hne)
   clear hst hbox hcu hki hdis hbel hm hml HSH HT HKC HS
   generalize kids.getD 0 0 = k0 at *
   subst hvq
   obtain ⟨mc, mq⟩ := m
   simp only at HR HML HMM b3 hsh hqc
   cases mq with
   | nil =>
    have HE := hid (HEND.out.trans (if_pos rfl))
    simp only [List.length_nil, Nat.zero_add] at *
    have hc00 : wr.cell? ⟨kb, koff + 0, none⟩ = some (.int .i64 (k0)) := by rw [Nat.add_zero]; exact hc0
    go_wp2
    go_ret
    rw [HE.out]
    exact ⟨rfl, ⟨F, Z, HM.out.below HR.out.2.2.2.2.1, fun b hb => Or.inl hb, fun b hb => Or.inl hb⟩, .of_below HR.out.2.2.2.2.1⟩
   | cons q0 q =>
    have HE := hid (HEND.out.trans (if_neg (by simp)))
    have hown : wr.ownsRow (w.heap.size + 1) 3 1 (.slice (some ⟨qb, qoff, none⟩) ((q0 :: q).length + 1) qcap) ((q0 :: q).length + 1) ((k0 :: q0 :: q).map (.int .i64)) := by
     rcases HR.out.2.2.1 with ⟨h, _⟩ | ⟨_, h⟩
     ·simp at h
     ·exact h
    have HKF := hid hkf
    have hfit1 : ∀ x ∈ mc, I64 x := fun x hx => HMC.out x hx
    have hfit2 : ∀ x ∈ k0 :: q0 :: q, I64 x := fun x hx => by
     rcases List.mem_cons.1 hx with rfl | hx
     ·exact HK0.out
     ·exact HKF.out _ (merge_mem (k0) starts kids x (by rw [HMM.out]; exact hx))
    have hi1 := ints_own HR.out.2.1 hfit1 (by have := HML.out; omega)
    have hi2 := ints_own hown hfit2 (by simp only [List.length_cons] at hsh ⊢; omega)
    have hz1 := fun k hk => HR.out.2.1.lt k hk
    have hz2 := fun k hk => hown.lt k hk
    have HN := hid (node_any M all F Z (fun b => vc.ownBlock = some b ∨ (Value.slice (some ⟨qb, qoff, none⟩) ((q0 :: q).length + 1) qcap).ownBlock = some b) ⟨false, i, mc, k0 :: q0 :: q⟩ [.bool false, .int .i64 i, vc, .slice (some ⟨qb, qoff, none⟩) ((q0 :: q).length + 1) qcap] wr (HM.out.below HR.out.2.2.2.2.1)
     ⟨⟨vc, _, rfl, hi, hi1.mono (fun b hb => Or.inl hb), hi2.mono (fun b hb => Or.inr hb)⟩, fun b hb => by
      rcases hb with hb | hb
      ·exact ⟨fun hF => by have := HM.out.liveF b hF; have := (hz1 b hb).1; omega, (hz1 b hb).2⟩
      ·exact ⟨fun hF => by have := HM.out.liveF b hF; have := (hz2 b hb).1; omega, (hz2 b hb).2⟩, by show mc.length ≤ 2000000; have := HML.out; omega, by show (k0 :: q0 :: q).length ≤ 2000000; have h1 := merge_short (k0) (starts.drop 1) (kids.drop 1); have h2 := HMD.out; rw [HMM.out] at h2; rw [h2] at h1; simp at h1 ⊢; omega⟩ hall (((htab.on HR.out.2.2.2.2.1)).mono HR.out.2.2.2.2.1.size))
    have HZ2 := hid (And.intro hz1 hz2)
    have b0 : wr.cell? ⟨w.heap.size, 0, none⟩ = some (.bool false) := HR.out.1.cell 0
    have b1 : wr.cell? ⟨w.heap.size, 1, none⟩ = some (.int .i64 i) := HR.out.1.cell 1
    have b2 : wr.cell? ⟨w.heap.size, 2, none⟩ = some vc := HR.out.1.cell 2
    have hblt : w.heap.size < wr.heap.size := HR.out.1.lt
    clear hown hi1 hi2 hz1 hz2 hkf hfit1 hfit2 htab
    simp only [List.length_cons] at *
    have HFIN := hid (fun e W' (hp : MkPost wr M F (fun b => Z b ∨ (vc.ownBlock = some b ∨ (Value.slice (some ⟨qb, qoff, none⟩) (q.length + 1 + 1) qcap).ownBlock = some b)) (innerS all i starts kids) e W') => inner_end (w := w) HR.out.2.2.2.2.1 (fun b hb => by
     rcases hb with hb | hb
     ·have := (HZ2.out.1 b hb).1; omega
     ·have := (HZ2.out.2 b hb).1; omega) hp)
    rw [HE.out] at HFIN
    go_wp2_with fail
    refine HN.out.mono ?_
    rintro e W' ⟨rfl, hp2⟩
    have HEND2 := hid (HFIN.out _ _ ⟨rfl, hp2⟩)
    clear hp2 HN HFIN
    go_wp2
    go_ret
    rw [HE.out]
    exact HEND2.out
end Go.Proofs.YtcigjmlileckhaaGreatDoor
