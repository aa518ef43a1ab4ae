/- Walk of slices.Clone of nodes. Walk of diagram.Not. -/
import Derived.Test.YtcigjmlileckhaaGreatDoorM7
import Derived.Test.YtcigjmlileckhaaGreatDoorM13
import Derived.Test.YtcigjmlileckhaaGreatDoorM3
import Derived.Test.YtcigjmlileckhaaGreatDoorM6
import Derived.Test.YtcigjmlileckhaaGreatDoorM8
/- Walk of slices.Clone of nodes. -/
namespace Go.Proofs.YtcigjmlileckhaaGreatDoor
open Go.RowKit
/-- The four cells of a node in a list of cells. -/
def NAt (Z : Zone) (w : World) (xs : List Value) (i : Nat) (n : NodeD) : Prop :=
 ∃ vc vk, xs[i * 4]? = some (.bool n.leaf) ∧ xs[i * 4 + 1]? = some (.int .i64 n.fact) ∧ xs[i * 4 + 2]? = some vc ∧ xs[i * 4 + 3]? = some vk ∧ I64 n.fact ∧ Ints Z w vc n.cuts ∧ Ints Z w vk n.kids
theorem NAt.keep {Z : Zone} {w w' : World} {xs : List Value} {i : Nat} {n : NodeD} (h : NAt Z w xs i n) (hk : Keeps Z w w') : NAt Z w' xs i n := by
 obtain ⟨vc, vk, h0, h1, h2, h3, h4, h5, h6⟩ := h
 exact ⟨vc, vk, h0, h1, h2, h3, h4, h5.keep hk, h6.keep hk⟩
theorem NAt.mono {Z Z' : Zone} {w : World} {xs : List Value} {i : Nat} {n : NodeD} (hz : ∀ b, Z b → Z' b) (h : NAt Z w xs i n) : NAt Z' w xs i n := by
 obtain ⟨vc, vk, h0, h1, h2, h3, h4, h5, h6⟩ := h
 exact ⟨vc, vk, h0, h1, h2, h3, h4, h5.mono hz, h6.mono hz⟩
theorem seq_cells {Z : Zone} {w : World} {b : Nat} : ∀ {l : List NodeD} {off : Nat}, SeqR (NodeR Z w) 4 Z w l (some ⟨b, off, none⟩) →
  ∃ xs : List Value, xs.length = l.length * 4 ∧ (∀ u ∈ xs, u.oneCell' = true) ∧ (∀ j u, xs[j]? = some u → w.cell? ⟨b, off + j, none⟩ = some u) ∧ ∀ i (hi : i < l.length), NAt (fun b => Z b ∧ b < w.heap.size) w xs i l[i]
 | [], _, _ => ⟨[], rfl, by simp, by simp, fun i hi => absurd hi (by simp)⟩
 | n :: l, off, h => by
  unfold SeqR at h
  obtain ⟨b', off', cs, e, hz, hc, hn, hr⟩ := h
  injection e with e
  injection e with e1 e2
  subst e1 e2
  obtain ⟨xs, x1, x2, x3, x4⟩ := seq_cells hr
  obtain ⟨vc, vk, rfl, hf, hcu, hki⟩ := hn
  obtain ⟨C, cc, hcv, -⟩ := hcu.is
  obtain ⟨K, kc, hkv, -⟩ := hki.is
  refine ⟨[.bool n.leaf, .int .i64 n.fact, vc, vk] ++ xs, by simp [x1]; omega, fun u hu => ?_, fun j u hu => ?_, fun i hi => ?_⟩
  ·rcases List.mem_append.1 hu with hu | hu
   ·subst hcv hkv
    simp only [List.mem_cons, List.not_mem_nil, or_false] at hu
    rcases hu with rfl | rfl | rfl | rfl <;> rfl
   ·exact x2 u hu
  ·by_cases hj : j < 4
   ·rw [List.getElem?_append_left (by simpa using hj)] at hu
    exact hc j u hu
   ·rw [List.getElem?_append_right (by simp; omega)] at hu
    have := x3 _ u hu
    simp only [List.length_cons, List.length_nil] at this
    rwa [show off + 4 + (j - (0 + 1 + 1 + 1 + 1)) = off + j by omega] at this
  ·cases i with
   | zero => exact ⟨vc, vk, rfl, rfl, rfl, rfl, hf, hcu.live, hki.live⟩
   | succ i =>
    obtain ⟨vc', vk', h0, h1, h2, h3, h4⟩ := x4 i (by simpa using hi)
    refine ⟨vc', vk', ?_, ?_, ?_, ?_, h4⟩
    all_goals rw [List.getElem?_append_right (by simp; omega)]
    ·refine Eq.trans ?_ h0; congr 1; simp only [List.length_cons, List.length_nil]; omega
    ·refine Eq.trans ?_ h1; congr 1; simp only [List.length_cons, List.length_nil]; omega
    ·refine Eq.trans ?_ h2; congr 1; simp only [List.length_cons, List.length_nil]; omega
    ·refine Eq.trans ?_ h3; congr 1; simp only [List.length_cons, List.length_nil]; omega
/-- Back from cells to nodes. -/
theorem seq_of {Z : Zone} {w : World} {b : Nat} (hb : Z b) {xs : List Value} (hx : ∀ j u, xs[j]? = some u → w.cell? ⟨b, j, none⟩ = some u) : ∀ (l : List NodeD) (k : Nat), (∀ i (hi : i < l.length), NAt Z w xs (k + i) l[i]) →
  SeqR (NodeR Z w) 4 Z w l (some ⟨b, k * 4, none⟩)
 | [], _, _ => by unfold SeqR; trivial
 | n :: l, k, h => by
  unfold SeqR
  obtain ⟨vc, vk, h0, h1, h2, h3, h4, h5, h6⟩ := h 0 (by simp)
  refine ⟨b, k * 4, [.bool n.leaf, .int .i64 n.fact, vc, vk], rfl, hb, fun j u hu => ?_, ⟨vc, vk, rfl, h4, h5, h6⟩, ?_⟩
  ·match j, hu with
   | 0, hu => simp at hu; subst hu; exact hx _ _ h0
   | 1, hu => simp at hu; subst hu; exact hx _ _ h1
   | 2, hu => simp at hu; subst hu; exact hx _ _ h2
   | 3, hu => simp at hu; subst hu; exact hx _ _ h3
   | j + 4, hu => simp at hu
  ·rw [show k * 4 + 4 = (k + 1) * 4 by omega]
   exact seq_of hb hx l (k + 1) fun i hi => by
    have := h (i + 1) (by simpa using hi)
    rwa [show k + (i + 1) = k + 1 + i by omega] at this
theorem Tryz.nilN (w : World) (a : Option Addr) (n c n' c' : Nat) : (binOp .eql 32 (.slice a n c) (.slice none n' c')).run Tryz.prog w = .ok (.bool a.isNone) w := Lib.run_eql_slice_nil w _ _ a n c n' c' Tryz.underlying32
set_option maxRecDepth 100000 in
set_option maxHeartbeats 4000000 in
theorem cloneN_any (Z : Zone) (v : Value) (g : List NodeD) (w : World) (h : Nodes Z w v g) :
  Calls Tryz.prog 83 #[v] w fun e w' => ∃ v' xs, e = .returned v' ∧ w'.ownsRow w.heap.size 55 4 v' g.length xs ∧ Below w.heap.size w w' ∧ ∀ i (hi : i < g.length), NAt (fun b => Z b ∧ b < w.heap.size) w xs i g[i] := by
 obtain ⟨A, cap, rfl, h1, h2, h3, hseq⟩ := h
 have q := Tryz.nilN
 cases A with
 | none =>
  have hg : g = [] := by
   cases g with
   | nil => rfl
   | cons n r => unfold SeqR at hseq; obtain ⟨_, _, _, e, _⟩ := hseq; cases e
  subst hg
  clear hseq
  go_enter Tryz.func83, Tryz.ntmps83
  go_wp2
  go_ret
  exact ⟨_, [], rfl, World.ownsRow_nil _ _ _ _, Below.refl _ _, fun i hi => absurd hi (by simp)⟩
 | some p =>
  have HX : ∃ xs : List Value, xs.length = g.length * 4 ∧ (∀ u ∈ xs, u.oneCell' = true) ∧ (∀ j u, xs[j]? = some u → w.cell? (p.add j) = some u) ∧ ∀ i (hi : i < g.length), NAt (fun b => Z b ∧ b < w.heap.size) w xs i g[i] := by
   cases g with
   | nil => exact ⟨[], rfl, by simp, by simp, fun i hi => absurd hi (by simp)⟩
   | cons n r =>
    have hs := hseq
    unfold SeqR at hs
    obtain ⟨b, off, _, e, _⟩ := hs
    injection e with e
    subst e
    obtain ⟨xs, x1, x2, x3, x4⟩ := seq_cells hseq
    refine ⟨xs, x1, x2, fun j u hu => ?_, x4⟩
    rw [show (⟨b, off, none⟩ : Addr).add j = ⟨b, off + j, none⟩ from by unfold Addr.add; split <;> simp_all]
    exact x3 j u hu
  obtain ⟨xs, x1, x2, x3, x4⟩ := HX
  have HX3 := hid x3
  have HX4 := hid x4
  obtain ⟨_, i0, z0, hi0, hz0, hsz0, hby0, hzs0⟩ := Tryz.eNode
  have HB := hid h3
  clear hseq x3 x4
  go_enter Tryz.func83, Tryz.ntmps83
  go_wp2_with (at_builtin; refine wpList_append_own _ rfl _ _ 32 rfl w.heap.size 55 i0 z0 4 64 Tryz.underlying32 hi0 hz0 hsz0 hby0 hzs0 (by decide) _ _ _ rfl (World.ownsRow_made w #[] 0 (Nat.le_refl _) (Nat.zero_le _) rfl) p g.length cap xs rfl x1 (fun j u hu => cell_alloc (HX3.out j u hu) _) x2 (by have := HB.out; unfold maxLen; omega) (by have := HB.out; omega) (by simp) ?_)
  intro v' w1 hown hgrow hnil
  go_wp2
  go_ret
  refine ⟨v', xs, rfl, by simpa using hown, ?_, HX4.out⟩
  exact ((Below.refl _ w).alloc (Nat.le_refl _) _).grown hgrow (by simp) (by intro k hk; simp [Value.ownBlock] at hk; omega)
end Go.Proofs.YtcigjmlileckhaaGreatDoor
/- Walk of diagram.Not. -/
namespace Go.Proofs.YtcigjmlileckhaaGreatDoor
open Go.RowKit
theorem seq_live {Z : Zone} {w : World} : ∀ {l : List NodeD} {A : Option Addr}, SeqR (NodeR Z w) 4 Z w l A → SeqR (NodeR (fun b => Z b ∧ b < w.heap.size) w) 4 (fun b => Z b ∧ b < w.heap.size) w l A
 | [], _, _ => by unfold SeqR; trivial
 | n :: l, A, h => by
  unfold SeqR at h ⊢
  obtain ⟨b, off, cs, e, hz, hc, ⟨vc, vk, rfl, hf, hcu, hki⟩, hr⟩ := h
  exact ⟨b, off, _, e, ⟨hz, lt_of_cell (hc 0 _ rfl)⟩, hc, ⟨vc, vk, rfl, hf, hcu.live, hki.live⟩, seq_live hr⟩
theorem Nodes.live {Z : Zone} {w : World} {v : Value} {g : List NodeD} (h : Nodes Z w v g) : Nodes (fun b => Z b ∧ b < w.heap.size) w v g := by
 obtain ⟨A, cap, rfl, h1, h2, h3, h4⟩ := h
 exact ⟨A, cap, rfl, h1, h2, h3, seq_live h4⟩
theorem own_set {w : World} {base : Nat} {e : TypeId} {size g n cap : Nat} {xs : List Value} (h : w.ownsRow base e size (.slice (some ⟨g, 0, none⟩) n cap) n xs) (j : Nat) (u : Value) :
  (w.setCell ⟨g, j, none⟩ u).ownsRow base e size (.slice (some ⟨g, 0, none⟩) n cap) n (xs.set j u) := by
 refine ⟨by simpa using h.1, ?_⟩
 rcases h.2 with ⟨h, _⟩ | ⟨g', cap', cur, e', hb, hg, h1, h2, h3, h4⟩
 ·cases h
 ·injection e' with e1 e2 e3
  injection e1 with e1
  injection e1 with e1
  subst e1 e3
  refine Or.inr ⟨g, cap, cur.setIfInBounds j u, rfl, hb, ?_, h1, h2, by simpa using h3, ?_⟩
  ·have : Blk w g e cur := hg
   exact this.set_ j u
  ·rw [← h4]
   simp only [Array.toList_setIfInBounds, List.take_set]
theorem own_free {w : World} {base : Nat} {e : TypeId} {size g n cap : Nat} {xs : List Value} (h : w.ownsRow base e size (.slice (some ⟨g, 0, none⟩) n cap) n xs) (j : Nat) : w.frozen? ⟨g, j, none⟩ = false := by
 rcases h.2 with ⟨h, _⟩ | ⟨g', cap', cur, e', hb, hg, _⟩
 ·cases h
 ·injection e' with e1
  injection e1 with e1
  injection e1 with e1
  subst e1
  exact (show Blk w g e cur from hg).frozen j
theorem own_at {w : World} {base : Nat} {e : TypeId} {size g n cap : Nat} {xs : List Value} (h : w.ownsRow base e size (.slice (some ⟨g, 0, none⟩) n cap) n xs) {j : Nat} {u : Value} (hu : xs[j]? = some u) : w.cell? ⟨g, j, none⟩ = some u := by
 have := h.cells (g := g) rfl j u hu
 rwa [show (⟨g, 0, none⟩ : Addr).add j = ⟨g, j, none⟩ from by unfold Addr.add; split <;> simp_all] at this
theorem NAt.leaf {Z : Zone} {w : World} {xs : List Value} {k : Nat} {n : NodeD} (h : NAt Z w xs k n) (hk : n.kids = []) : NAt Z w (xs.set (k * 4) (.bool !n.leaf)) k (notN n) := by
 obtain ⟨vc, vk, h0, h1, h2, h3, h4⟩ := h
 have hl : k * 4 < xs.length := (List.getElem?_eq_some_iff.1 h0).1
 unfold notN
 rw [if_pos hk]
 refine ⟨vc, vk, ?_, ?_, ?_, ?_, h4⟩
 ·rw [List.getElem?_set_self hl]
 ·rw [List.getElem?_set_ne (by omega)]; exact h1
 ·rw [List.getElem?_set_ne (by omega)]; exact h2
 ·rw [List.getElem?_set_ne (by omega)]; exact h3
theorem NAt.far {Z : Zone} {w : World} {xs : List Value} {k i : Nat} {n : NodeD} {u : Value} (h : NAt Z w xs i n) (hk : k ≠ i) : NAt Z w (xs.set (k * 4) u) i n := by
 obtain ⟨vc, vk, h0, h1, h2, h3, h4⟩ := h
 refine ⟨vc, vk, ?_, ?_, ?_, ?_, h4⟩
 ·rw [List.getElem?_set_ne (by omega)]; exact h0
 ·rw [List.getElem?_set_ne (by omega)]; exact h1
 ·rw [List.getElem?_set_ne (by omega)]; exact h2
 ·rw [List.getElem?_set_ne (by omega)]; exact h3
/-- Node i when k are turned. -/
def notK (g : List NodeD) (k i : Nat) : NodeD := if i < k then notN (g.getD i noNode) else g.getD i noNode
/-- The copy when k nodes are turned; G is the box of the result's slice. -/
structure NotL (Z : Zone) (w u wr : World) (g : List NodeD) (v1 : Value) (G k : Nat) : Prop where
 row : ∃ ys, wr.ownsRow (w.heap.size + 1 + 1) 55 4 v1 g.length ys ∧ ∀ i, i < g.length → NAt Z u ys i (notK g k i)
 box : Blk wr G 34 #[v1]
 far : v1.ownBlock ≠ some G
 lim : w.heap.size + 1 + 1 ≤ G
 out : Blk wr (w.heap.size + 1) 34 #[.slice none 0 0]
 bel : Below w.heap.size w wr
 bu : Below w.heap.size u wr
theorem NotL.alloc {Z : Zone} {w u wr : World} {g : List NodeD} {v1 : Value} {G k : Nat} (h : NotL Z w u wr g v1 G k) (o : Obj) : NotL Z w u (wr.alloc o) g v1 G k := by
 obtain ⟨ys, h1, h2⟩ := h.row
 exact ⟨⟨ys, h1.alloc o, h2⟩, h.box.alloc o, h.far, h.lim, h.out.alloc o, h.bel.trans ((below1 wr o).mono h.bel.size), h.bu.alloc h.bel.size o⟩
theorem NotL.stay {Z : Zone} {w u wr : World} {g : List NodeD} {v1 : Value} {G k : Nat} (h : NotL Z w u wr g v1 G k) (hk : (g.getD k noNode).kids ≠ []) : NotL Z w u wr g v1 G (k + 1) := by
 obtain ⟨ys, h1, h2⟩ := h.row
 refine ⟨⟨ys, h1, fun i hi => ?_⟩, h.box, h.far, h.lim, h.out, h.bel, h.bu⟩
 have := h2 i hi
 unfold notK at this ⊢
 by_cases e : i = k
 ·subst e
  rw [if_neg (by omega)] at this
  rw [if_pos (by omega)]
  unfold notN
  rwa [if_neg hk]
 ·by_cases hik : i < k
  ·rw [if_pos hik] at this; rwa [if_pos (by omega)]
  ·rw [if_neg hik] at this; rwa [if_neg (by omega)]
theorem NotL.turn {Z : Zone} {w u wr : World} {g : List NodeD} {gb cap G k : Nat} (h : NotL Z w u wr g (.slice (some ⟨gb, 0, none⟩) g.length cap) G k) (hkl : k < g.length) (hk : (g.getD k noNode).kids = []) :
  NotL Z w u (wr.setCell ⟨gb, k * 4, none⟩ (.bool !(g.getD k noNode).leaf)) g (.slice (some ⟨gb, 0, none⟩) g.length cap) G (k + 1) := by
 obtain ⟨ys, h1, h2⟩ := h.row
 have hgb := (h1.lt gb rfl).1
 have hne : gb ≠ G := fun e => h.far (by rw [e]; rfl)
 refine ⟨⟨_, own_set h1 _ _, fun i hi => ?_⟩, h.box.far (Ne.symm hne) _, h.far, h.lim, h.out.far (by show w.heap.size + 1 ≠ gb; omega) _, h.bel.setCell (by show w.heap.size ≤ gb; omega) _, h.bu.setCell (by show w.heap.size ≤ gb; omega) _⟩
 have := h2 i hi
 unfold notK at this ⊢
 by_cases e : i = k
 ·subst e
  rw [if_neg (by omega)] at this
  rw [if_pos (by omega)]
  exact this.leaf hk
 ·by_cases hik : i < k
  ·rw [if_pos hik] at this; rw [if_pos (by omega)]; exact this.far (Ne.symm e)
  ·rw [if_neg hik] at this; rw [if_neg (by omega)]; exact this.far (Ne.symm e)
theorem NotL.nodes {Z : Zone} {w u wr : World} {g : List NodeD} {v1 : Value} {G : Nat} (h : NotL (fun b => Z b ∧ b < w.heap.size) w u wr g v1 G g.length) (hl : g.length * 64 ≤ 140737488355328) : Nodes (fun b => (Z b ∧ b < w.heap.size) ∨ w.heap.size + 1 + 1 ≤ b) wr v1 (notD g) := by
 obtain ⟨ys, h1, h2⟩ := h.row
 obtain ⟨A, cap, rfl, c1, c2, -⟩ := Row.of_own h1 (by decide)
 have hlen : (notD g).length = g.length := List.length_map _
 refine ⟨A, cap, by rw [hlen], by rw [hlen]; exact c1, by simpa [maxLen] using c2, by rw [hlen]; exact hl, ?_⟩
 cases g with
 | nil => unfold notD; simp only [List.map_nil]; unfold SeqR; trivial
 | cons n r =>
  obtain ⟨gb, c', e⟩ := own_form h1
  injection e with e
  subst e
  have hgb := (h1.lt gb rfl).1
  have := seq_of (Z := fun b => (Z b ∧ b < w.heap.size) ∨ w.heap.size + 1 + 1 ≤ b) (w := wr) (b := gb) (Or.inr (by omega)) (xs := ys) (fun j u hu => own_at h1 hu) (notD (n :: r)) 0 (fun i hi => by
   have hi' : i < (n :: r).length := by rwa [hlen] at hi
   have h3 := h2 i hi'
   unfold notK at h3
   rw [if_pos hi'] at h3
   rw [Nat.zero_add]
   have e : (notD (n :: r))[i] = notN ((n :: r).getD i noNode) := by
    have e1 : (notD (n :: r))[i] = notN (n :: r)[i] := List.getElem_map _
    rw [e1, List.getD_eq_getElem?_getD, List.getElem?_eq_getElem hi']; rfl
   rw [e]
   exact (h3.keep (.of_below_lt h.bu (fun b _ hb => hb.2))).mono fun b hb => Or.inl hb)
  simpa using this
set_option maxRecDepth 100000 in
set_option maxHeartbeats 4000000 in
theorem not_any (Z : Zone) (v : Value) (g : List NodeD) (w : World) (h : Nodes Z w v g) :
  Calls Tryz.prog 32 #[.agg #[v]] w fun e w' => ∃ v', e = .returned (.agg #[v']) ∧ Nodes (fun b => (Z b ∧ b < w.heap.size) ∨ w.heap.size ≤ b) w' v' (notD g) ∧ Below w.heap.size w w' := by
 have HC := hid (fun W (hb : Below w.heap.size w W) => cloneN_any _ v g W (h.live.keep (.of_below hb)))
 obtain ⟨A, cap, rfl, -, -, h3, -⟩ := h
 have H64 := hid h3
 have hb2 := below2 w (.cells #[.slice A g.length cap] 34) (.cells #[.slice none 0 0] 34)
 have hbx := (Blk.new' (w.alloc (.cells #[.slice A g.length cap] 34)) 34 #[.slice none 0 0] (n := w.heap.size + 1) (by simp))
 have HB := hid (And.intro hb2 hbx)
 clear hb2 hbx h3
 go_enter Tryz.func32, Tryz.ntmps32
 go_wp2_with fail
 refine (HC.out _ HB.out.1).mono ?_
 rintro e w1 ⟨v1, xs, rfl, hown, hb1, hat⟩
 have HL := hid (show NotL (fun b => Z b ∧ b < w.heap.size) w ((w.alloc (.cells #[.slice A g.length cap] 34)).alloc (.cells #[.slice none 0 0] 34)) (w1.alloc (.cells #[v1] 34)) g v1 w1.heap.size 0 from
  ⟨⟨xs, (own_mono hown (by simp)).alloc _, fun i hi => by
   have := hat i hi
   unfold notK
   rw [if_neg (by omega), List.getD_eq_getElem?_getD, List.getElem?_eq_getElem hi]
   exact this.mono fun b hb => hb.1⟩, Blk.new _ _ _, fun e => by have := (hown.lt _ e).2; omega, by have := hb1.size; simpa using this, (HB.out.2.below hb1 (by simp)).alloc _, (HB.out.1.trans (hb1.mono HB.out.1.size)).alloc (by have := hb1.size; simp at this; omega) _, (hb1.mono HB.out.1.size).alloc (by have := hb1.size; simp at this; omega) _⟩)
 obtain ⟨A1, cap1, rfl, -, -, -⟩ := Row.of_own hown (by decide)
 clear hown hat hb1 HC HB
 generalize (w.alloc (.cells #[.slice A g.length cap] 34)).alloc (.cells #[.slice none 0 0] 34) = u at *
 have HG := hid (show w1.heap.size = w1.heap.size from rfl)
 go_upto_region 2 with fail
 generalize (w1.alloc (.cells #[.slice A1 g.length cap1] 34)) = w2 at *
 generalize w1.heap.size = G at *
 have b0 : w2.cell? ⟨G, 0, none⟩ = some (.slice A1 g.length cap1) := HL.out.box.cell 0
 have b0l := HL.out.box.lt
 have hgl : g.length ≤ 2199023255552 := by have := H64.out; omega
 go_wp2
 clear b0 b0l
 go_loopw [13] (fun ix wr => ∃ k : Nat, k ≤ g.length ∧ ix = .int .i64 k ∧ NotL (fun b => Z b ∧ b < w.heap.size) w u wr g (.slice A1 g.length cap1) G k) (fun ix _ => g.length - (intOf ix).toNat)
 case atStart => exact ⟨0, Nat.zero_le _, rfl, HL.out⟩
 case round =>
  obtain ⟨k, hk, rfl, hL⟩ := hrel
  by_cases hkl : k < g.length
  ·obtain ⟨ys, hown, hat⟩ := hL.row
   have hA : ∃ gb, A1 = some ⟨gb, 0, none⟩ := by
    rcases hown.2 with ⟨_, h0⟩ | ⟨gc, c', cur', hv, _⟩
    ·omega
    ·injection hv with hv; exact ⟨gc, hv⟩
   obtain ⟨gb, rfl⟩ := hA
   obtain ⟨vc, vk, x0, x1, x2, x3, hf, hcu, hki⟩ := hat k hkl
   unfold notK at x0 x1 hf hcu hki
   rw [if_neg (Nat.lt_irrefl k)] at x0 x1 hf hcu hki
   have c0 := own_at hown x0
   have c1 := own_at hown x1
   have c2 := own_at hown x2
   have c3 := own_at hown x3
   have cf := own_free hown (k * 4)
   have cl : gb < wr.heap.size := (hown.lt gb rfl).2
   have b0 : wr.cell? ⟨G, 0, none⟩ = some (.slice (some ⟨gb, 0, none⟩) g.length cap1) := hL.box.cell 0
   have b0l := hL.box.lt
   obtain ⟨AC, cc, rfl, -⟩ := hcu.is
   obtain ⟨AK, kc, rfl, -, -, hk8, -⟩ := hki.is
   have HLK := hid hL
   have HKL := hid hkl
   have hi1 : (k : Int) < (g.length : Int) := by omega
   obtain ⟨n, hn⟩ : ∃ n, n = g.getD k noNode := ⟨_, rfl⟩
   have HN := hid hn
   have hkk : n.kids.length ≤ 17592186044416 := by rw [hn]; omega
   rw [← hn] at c0 c1 c2 c3
   clear x0 x1 x2 x3 hat hown hf hcu hki hL hn hk8 hkl
   by_cases hke : n.kids = []
   ·have e3 : ((n.kids.length : Int) == 0) = true := by simp [hke]
    have HS := hid (HLK.out.turn HKL.out (by rw [← HN.out]; exact hke))
    rw [← HN.out] at HS
    replace HS := hid (HS.out.alloc (.cells #[.bool n.leaf, .int .i64 n.fact, .slice AC n.cuts.length cc, .slice AK n.kids.length kc] 55))
    clear hke
    go_wp2
    go_roundw
    case rel => exact ⟨k + 1, by omega, by go_num, HS.out⟩
    case measure => simp [intOf]; omega
   ·have e3 : ((n.kids.length : Int) == 0) = false := by simp [hke]
    have HS := hid ((HLK.out.alloc (.cells #[.bool n.leaf, .int .i64 n.fact, .slice AC n.cuts.length cc, .slice AK n.kids.length kc] 55)).stay (by rw [← HN.out]; exact hke))
    clear hke
    go_wp2
    go_roundw
    case rel => exact ⟨k + 1, by omega, by go_num, HS.out⟩
    case measure => simp [intOf]; omega
  ·obtain rfl : k = g.length := by omega
   have b0 : wr.cell? ⟨G, 0, none⟩ = some (.slice A1 g.length cap1) := hL.box.cell 0
   have b0l := hL.box.lt
   have r0 : wr.cell? ⟨w.heap.size + 1, 0, none⟩ = some (.slice none 0 0) := hL.out.cell 0
   have rf := hL.out.frozen 0
   have rl := hL.out.lt
   have HP := hid (show Nodes (fun b => (Z b ∧ b < w.heap.size) ∨ w.heap.size ≤ b) (wr.setCell ⟨w.heap.size + 1, 0, none⟩ (.slice A1 g.length cap1)) (.slice A1 g.length cap1) (notD g) ∧ Below w.heap.size w (wr.setCell ⟨w.heap.size + 1, 0, none⟩ (.slice A1 g.length cap1)) from
    ⟨((hL.nodes H64.out).keep ((Keeps.refl _ _).setCell (fun _ h => by rcases h with h | h <;> (simp at h; omega)) _)).mono fun b hb => hb.imp_right fun h => by omega, hL.bel.setCell (by show w.heap.size ≤ w.heap.size + 1; omega) _⟩)
   have HR0 := hid ((hL.out.set_ 0 (.slice A1 g.length cap1)).cell 0)
   clear hL
   go_wp2
   have r1 : (wr.setCell ⟨w.heap.size + 1, 0, none⟩ (.slice A1 g.length cap1)).cell? ⟨w.heap.size + 1, 0, none⟩ = some (.slice A1 g.length cap1) := HR0.out
   exact bodyPost_ret (v := .agg #[.slice A1 g.length cap1]) (by simp [results, Tryz.results32, go_sem, r1]) rfl ⟨_, rfl, HP.out.1, HP.out.2⟩
end Go.Proofs.YtcigjmlileckhaaGreatDoor
