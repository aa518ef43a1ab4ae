/- The maker of nodes in memory: its two cells, the row of its nodes, the map of their texts. Walk of diagram.write: the text of a node. -/
import Derived.Test.YtcigjmlileckhaaGreatDoorM2
import Derived.Test.YtcigjmlileckhaaGreatDoorM1
import Derived.Test.YtcigjmlileckhaaGreatDoorProg
import Derived.Test.YtcigjmlileckhaaGreatDoorM0
import Derived.WalkSpells
import Derived.WalkLawsBesides
import Derived.Lib.OthersKept
import Derived.Lib.ItoaLen
import Derived.Laws.IdiomStrings
/- The maker of nodes in memory: its two cells, the row of its nodes, the map of their texts. -/
namespace Go.Proofs.YtcigjmlileckhaaGreatDoor
open Go.RowKit
theorem Tryz.eNode : ElemIs Tryz.prog 55 4 64 := elemIs_of (z := .agg #[.bool false, .int .i64 0, .slice none 0 0, .slice none 0 0]) (by kernel_rfl) rfl (by decide)
/-- Nodes and their cells, one for one. -/
def NdL (Z : Zone) (w : World) : List NodeD → List (List Value) → Prop
 | [], [] => True
 | f :: fs, c :: cs => NodeR Z w c f ∧ NdL Z w fs cs
 | _, _ => False
theorem NodeR.size {Z : Zone} {w : World} {cs : List Value} {n : NodeD} (h : NodeR Z w cs n) : cs.length = 4 := by
 obtain ⟨vc, vk, rfl, _⟩ := h; rfl
theorem NdL.keep {Z : Zone} {w w' : World} (hk : Keeps Z w w') : ∀ {fs : List NodeD} {csl : List (List Value)}, NdL Z w fs csl → NdL Z w' fs csl
 | [], [], _ => trivial
 | _ :: _, _ :: _, h => ⟨h.1.keep hk, NdL.keep hk h.2⟩
 | [], _ :: _, h => h.elim
 | _ :: _, [], h => h.elim
theorem NdL.mono {Z Z' : Zone} {w : World} (hz : ∀ b, Z b → Z' b) : ∀ {fs : List NodeD} {csl : List (List Value)}, NdL Z w fs csl → NdL Z' w fs csl
 | [], [], _ => trivial
 | _ :: _, _ :: _, h => ⟨h.1.mono hz, NdL.mono hz h.2⟩
 | [], _ :: _, h => h.elim
 | _ :: _, [], h => h.elim
theorem NdL.snoc {Z : Zone} {w : World} {f : NodeD} {c : List Value} (hf : NodeR Z w c f) : ∀ {fs : List NodeD} {csl : List (List Value)}, NdL Z w fs csl → NdL Z w (fs ++ [f]) (csl ++ [c])
 | [], [], _ => ⟨hf, trivial⟩
 | _ :: _, _ :: _, h => ⟨h.1, NdL.snoc hf h.2⟩
 | [], _ :: _, h => h.elim
 | _ :: _, [], h => h.elim
theorem NdL.size {Z : Zone} {w : World} : ∀ {fs : List NodeD} {csl : List (List Value)}, NdL Z w fs csl → csl.flatten.length = fs.length * 4
 | [], [], _ => rfl
 | f :: fs, c :: cs, h => by
  have hl : c.length = 4 := h.1.size
  rw [List.flatten_cons, List.length_append, NdL.size h.2, hl, List.length_cons]; omega
 | [], _ :: _, h => h.elim
 | _ :: _, [], h => h.elim
/-- Node i of a row. -/
theorem NdL.at_ {Z : Zone} {w : World} : ∀ {fs : List NodeD} {csl : List (List Value)}, NdL Z w fs csl → ∀ i (hi : i < fs.length), ∃ cs, NodeR Z w cs fs[i] ∧ ∀ j u, cs[j]? = some u → csl.flatten[i * 4 + j]? = some u
 | [], [], _, i, hi => absurd hi (Nat.not_lt_zero _)
 | f :: fs, c :: cs, h, 0, _ => ⟨c, h.1, fun j u hu => by
   rw [List.flatten_cons, Nat.zero_mul, Nat.zero_add, List.getElem?_append_left (by have := List.getElem?_eq_some_iff.1 hu; exact this.1)]; exact hu⟩
 | f :: fs, c :: cs, h, i + 1, hi => by
  obtain ⟨d, hd, hc⟩ := NdL.at_ h.2 i (by simpa using hi)
  have hl : c.length = 4 := h.1.size
  refine ⟨d, by simpa using hd, fun j u hu => ?_⟩
  rw [List.flatten_cons, List.getElem?_append_right (by omega)]
  have := hc j u hu
  rwa [show (i + 1) * 4 + j - c.length = i * 4 + j by omega]
 | [], _ :: _, h, _, _ => h.elim
 | _ :: _, [], h, _, _ => h.elim
def textB (n : NodeD) : ByteArray := ⟨(writeT n).toArray⟩
theorem textB_inj {m n : NodeD} (h : textB m = textB n) : m = n := by
 unfold textB at h
 injection h with h
 exact writeT_inj (by simpa using congrArg Array.toList h)
def kvFrom : List NodeD → Nat → List (ByteArray × Value)
 | [], _ => []
 | n :: r, i => (textB n, .int .i64 (i : Nat)) :: kvFrom r (i + 1)
theorem kvFrom_get : ∀ (all : List NodeD) (i : Nat) (n : NodeD), kvGet (kvFrom all i) (textB n) = if n ∈ all then some (.int .i64 ((i + all.idxOf n : Nat) : Int)) else none
 | [], _, _ => by simp [kvFrom, kvGet]
 | m :: r, i, n => by
  unfold kvFrom kvGet
  by_cases h : n = m
  ·subst h; rw [if_pos rfl, if_pos (by simp)]; simp
  ·rw [if_neg (fun e => h (textB_inj e)), kvFrom_get r (i + 1) n]
   simp only [List.mem_cons, h, false_or]
   split
   ·rw [List.idxOf_cons]
    have : (m == n) = false := by simp; exact fun e => h e.symm
    rw [this]; simp; omega
   ·rfl
theorem kvFrom_set : ∀ (all : List NodeD) (i : Nat) (n : NodeD), n ∉ all → kvSet (kvFrom all i) (textB n) (.int .i64 ((i + all.length : Nat) : Int)) = kvFrom (all ++ [n]) i
 | [], _, _, _ => by simp [kvFrom, kvSet]
 | m :: r, i, n, h => by
  simp only [List.mem_cons, not_or] at h
  have ih := kvFrom_set r (i + 1) n h.2
  simp only [kvFrom, kvSet, List.cons_append, List.length_cons]
  rw [if_neg (fun e => h.1 (textB_inj e)), ← ih, show i + (r.length + 1) = i + 1 + r.length by omega]
theorem Blk.grown {W W' : World} {g : Nat} {t : TypeId} {cs : Array Value} {row : Option Nat} (h : Blk W g t cs) (hg : W.grownBy W' row) (hne : row ≠ some g) : Blk W' g t cs := (hg.block g h.lt fun e => hne e.symm).trans h
theorem blkc {W : World} {g : Nat} {t : TypeId} {cs : List Value} (h : Blk W g t cs.toArray) : ∀ j u, cs[j]? = some u → W.cell? ⟨g, 0 + j, none⟩ = some u := fun j u hu => by
 rw [Nat.zero_add, h.cell]; simpa using hu
theorem own_form {w : World} {base n size : Nat} {e : TypeId} {v : Value} {xs : List Value} (h : w.ownsRow base e size v (n + 1) xs) : ∃ g cap, v = .slice (some ⟨g, 0, none⟩) (n + 1) cap := by
 rcases h.2 with ⟨_, h⟩ | ⟨g, cap, cur, rfl, _⟩
 ·omega
 ·exact ⟨g, cap, rfl⟩
theorem own_keep {Z : Zone} {w w' : World} {base n size : Nat} {e : TypeId} {v : Value} {xs : List Value} (h : w.ownsRow base e size v n xs) (hk : Keeps Z w w') (hz : ∀ k, v.ownBlock = some k → Z k) : w'.ownsRow base e size v n xs := by
 refine ⟨h.1, ?_⟩
 rcases h.2 with h | ⟨g, cap, cur, rfl, hb, hg, h⟩
 ·exact Or.inl h
 ·have hlt : g < w.heap.size := by
   rcases Nat.lt_or_ge g w.heap.size with h' | h'
   ·exact h'
   ·rw [Array.getElem?_eq_none h'] at hg; cases hg
  exact Or.inr ⟨g, cap, cur, rfl, hb, (hk.block g hlt (hz g rfl)).trans hg, h⟩
theorem own_ne_map {κ : Type} {enc : κ → Value} {w : World} {b base n size : Nat} {e : TypeId} {v : Value} {xs : List Value} {kv : List (κ × Value)} (h : w.ownsRow base e size v n xs) (hm : MapIs enc w b kv) : v.ownBlock ≠ some b := by
 obtain ⟨es, clock, hb, _⟩ := hm
 rcases h.2 with ⟨rfl, _⟩ | ⟨g, cap, cur, rfl, _, hg, _⟩
 ·intro e; cases e
 ·intro e
  injection e with e
  simp only at e
  subst e
  rw [hb] at hg; injection hg with hg; cases hg
/-- A maker: its block, the blocks that it writes (F), the blocks in which its nodes' numbers lie (Z). -/
structure MkS (w : World) (M : Nat) (all : List NodeD) (F Z : Nat → Prop) : Prop where
 ex : ∃ v mp csl, Blk w M 69 #[v, mp] ∧ w.ownsRow 0 55 4 v all.length csl.flatten ∧ NdL Z w all csl ∧
  (mp = .map none ∧ all = [] ∨ ∃ b, mp = .map (some b) ∧ MapIs encS w b (kvFrom all 0) ∧ F b ∧ b ≠ M ∧ all ≠ []) ∧ (∀ k, v.ownBlock = some k → F k ∧ k ≠ M)
 fM : F M
 sep : ∀ b, Z b → ¬ F b
 liveF : ∀ b, F b → b < w.heap.size
 liveZ : ∀ b, Z b → b < w.heap.size
theorem MkS.keep {w w' : World} {M : Nat} {all : List NodeD} {F Z : Nat → Prop} (h : MkS w M all F Z) (hk : Keeps (fun b => F b ∨ Z b) w w') : MkS w' M all F Z := by
 obtain ⟨⟨v, mp, csl, h1, h2, h3, h4, h5⟩, hM, hs, hF, hZ⟩ := h
 refine ⟨⟨v, mp, csl, h1.keep hk (Or.inl hM), ?_, NdL.keep (hk.mono fun b _ hb => Or.inr hb) h3, ?_, h5⟩, hM, hs, fun b hb => Nat.lt_of_lt_of_le (hF b hb) hk.size, fun b hb => Nat.lt_of_lt_of_le (hZ b hb) hk.size⟩
 ·refine ⟨h2.1, ?_⟩
  rcases h2.2 with h | ⟨g, cap, cur, e, hb, hg, h⟩
  ·exact Or.inl h
  ·have hgF := (h5 g (by rw [e]; rfl)).1
   exact Or.inr ⟨g, cap, cur, e, hb, (hk.block g (hF g hgF) (Or.inl hgF)).trans hg, h⟩
 ·rcases h4 with h | ⟨b, e, hm, hb, hne⟩
  ·exact Or.inl h
  ·exact Or.inr ⟨b, e, hm.of_block (hk.block b (hF b hb) (Or.inl hb)), hb, hne⟩
theorem MkS.below {w w' : World} {M : Nat} {all : List NodeD} {F Z : Nat → Prop} (h : MkS w M all F Z) (hb : Below w.heap.size w w') : MkS w' M all F Z := h.keep (.of_below hb)
theorem MkS.mono {w : World} {M : Nat} {all : List NodeD} {F F' Z : Nat → Prop} (h : MkS w M all F Z) (hf : ∀ b, F b → F' b) (hs : ∀ b, Z b → ¬ F' b) (hl : ∀ b, F' b → b < w.heap.size) : MkS w M all F' Z := by
 obtain ⟨⟨v, mp, csl, h1, h2, h3, h4, h5⟩, hM, _, hF, hZ⟩ := h
 refine ⟨⟨v, mp, csl, h1, h2, h3, ?_, fun k hk => ⟨hf _ (h5 k hk).1, (h5 k hk).2⟩⟩, hf _ hM, hs, hl, hZ⟩
 rcases h4 with h | ⟨b, e, hm, hb, hne⟩
 ·exact Or.inl h
 ·exact Or.inr ⟨b, e, hm, hf _ hb, hne⟩
/-- A new maker. -/
theorem MkS.new (w : World) : MkS (w.alloc (.cells #[.slice none 0 0, .map none] 69)) w.heap.size [] (fun b => b = w.heap.size) (fun _ => False) :=
 ⟨⟨.slice none 0 0, .map none, [], Blk.new w _ _, World.ownsRow_nil _ _ _ _, trivial, Or.inl ⟨rfl, rfl⟩, fun k hk => by cases hk⟩, rfl, fun b h => h.elim, fun b hb => by subst hb; simp, fun b h => h.elim⟩
theorem Keeps.wide {Z : Zone} {w w' : World} (h : Keeps (fun x => Z x ∧ x < w.heap.size) w w') : Keeps Z w w' := h.mono fun _ hb hz => ⟨hz, hb⟩
/-- What making a node leaves. -/
def MkPost (w : World) (M : Nat) (F Z : Nat → Prop) (r : Int × List NodeD) (e : Ending) (w' : World) : Prop :=
 e = .returned (.int .i64 r.1) ∧ (∃ F', MkS w' M r.2 F' Z ∧ ∀ b, F' b → F b ∨ w.heap.size ≤ b) ∧ Keeps (fun b => ¬ F b) w w'
theorem mk_grown {wa w1 w5 : World} {M b : Nat} {all : List NodeD} {Fa Z Zn : Nat → Prop} {v v5 : Value} {csl : List (List Value)} {n : NodeD} {cs : List Value} {o : Obj}
  (h1 : Blk wa M 69 #[v, .map (some b)]) (_h2 : wa.ownsRow 0 55 4 v all.length csl.flatten) (h3 : NdL Z wa all csl) (h5 : ∀ k, v.ownBlock = some k → Fa k ∧ k ≠ M)
  (hM : Fa M) (hbF : Fa b) (hbM : b ≠ M) (hvb : v.ownBlock ≠ some b) (hs : ∀ x, Z x → ¬ Fa x) (hF : ∀ x, Fa x → x < wa.heap.size) (hZ : ∀ x, Z x → x < wa.heap.size) (hn : NodeR Zn wa cs n) (hzn : ∀ x, Zn x → ¬ Fa x ∧ x < wa.heap.size)
  (hk1 : Keeps (fun c => c ≠ b) wa w1) (hm1 : MapIs encS w1 b (kvFrom (all ++ [n]) 0)) (hg5 : (w1.alloc o).drew.grownBy w5 v.ownBlock) (hown5 : w5.ownsRow 0 55 4 v5 (all.length + 1) (csl.flatten ++ cs))
  (hat5 : v5.ownBlock = v.ownBlock ∨ v5.ownBlock = some (w1.alloc o).drew.heap.size) :
  (∃ F', MkS (w5.setCell ⟨M, 0, none⟩ v5) M (all ++ [n]) F' (fun x => Z x ∨ Zn x) ∧ ∀ x, F' x → Fa x ∨ wa.heap.size ≤ x) ∧ Keeps (fun x => ¬ Fa x) wa (w5.setCell ⟨M, 0, none⟩ v5) := by
 have hsz1 := hk1.size
 have hk2 : Keeps (fun x => ¬ Fa x) wa w5 := ((hk1.mono fun x _ hx e => hx (e ▸ hbF)).trans (((Keeps.refl _ _).alloc o).drew)).grown hg5 (fun k hk _ hx => hx (h5 k hk).1)
 have hk3 : Keeps (fun x => ¬ Fa x) wa (w5.setCell ⟨M, 0, none⟩ v5) := hk2.setCell (fun _ hx => hx hM) _
 have hMlt := h1.lt
 have hblt := hF b hbF
 have hsz5 := hg5.size
 have hsd : (w1.alloc o).drew.heap.size = w1.heap.size + 1 := by show (w1.alloc o).heap.size = _; simp
 have hv5 : ∀ k, v5.ownBlock = some k → (Fa k ∨ wa.heap.size ≤ k) ∧ k ≠ M ∧ k < w5.heap.size ∧ (k < wa.heap.size → Fa k) := fun k hk => by
  have hlt := (hown5.lt k hk).2
  rcases hat5 with e | e
  ·rw [e] at hk
   exact ⟨Or.inl (h5 k hk).1, (h5 k hk).2, hlt, fun _ => (h5 k hk).1⟩
  ·rw [hk] at e
   injection e with e
   exact ⟨Or.inr (by omega), by omega, hlt, fun h => by omega⟩
 have hb5 : w5.heap[b]? = w1.heap[b]? := (hg5.block b (by omega) (fun e => hvb e.symm)).trans (Below.heap_alloc _ _ _ (by omega))
 have hM5 : Blk w5 M 69 #[v, .map (some b)] := ((((h1.keep hk1 hbM.symm).alloc o).drew).grown hg5 (fun e => (h5 M e).2 rfl))
 refine ⟨⟨fun x => Fa x ∨ v5.ownBlock = some x, ⟨⟨v5, .map (some b), csl ++ [cs], hM5.set_ 0 v5, ?_, ?_, Or.inr ⟨b, rfl, (hm1.of_block hb5).of_block (Below.heap_setCell _ _ _ _ hbM), Or.inl hbF, hbM, by simp⟩, fun k hk => ⟨Or.inr hk, (hv5 k hk).2.1⟩⟩, Or.inl hM, ?_, ?_, ?_⟩, ?_⟩, hk3⟩
 ·have := own_keep (Z := fun c => c ≠ M) hown5 ((Keeps.refl _ _).setCell (p := ⟨M, 0, none⟩) (fun _ h => h rfl) v5) (fun k hk => (hv5 k hk).2.1)
  rw [List.length_append, List.length_singleton, List.flatten_append]
  simpa using this
 ·exact NdL.snoc ((hn.keep (hk3.mono fun x _ hx => (hzn x hx).1)).mono fun x hx => Or.inr hx) (NdL.mono (fun x hx => Or.inl hx) (NdL.keep (hk3.mono fun x _ hx => hs x hx) h3))
 ·rintro x hx (h | h)
  ·rcases hx with hx | hx
   ·exact hs x hx h
   ·exact (hzn x hx).1 h
  ·have h4 := (hv5 x h).2.2.2
   rcases hx with hx | hx
   ·exact hs x hx (h4 (hZ x hx))
   ·exact (hzn x hx).1 (h4 (hzn x hx).2)
 ·rintro x (h | h)
  ·have := hF x h
   have := hk3.size
   omega
  ·have := (hv5 x h).2.2.1
   simpa [World.setCell] using this
 ·rintro x (h | h)
  ·have := hZ x h
   have := hk3.size
   omega
  ·have := (hzn x h).2
   have := hk3.size
   omega
 ·rintro x (h | h)
  ·exact Or.inl h
  ·exact (hv5 x h).1
end Go.Proofs.YtcigjmlileckhaaGreatDoor
/- Walk of diagram.write: the text of a node. -/
namespace Go.Proofs.YtcigjmlileckhaaGreatDoor
open Go.RowKit Go.Shelf
/-- The table of powers of ten lies below a bound. -/
def TabB (B : Nat) (w : World) : Prop := Lib.TabBelow Tryz.prog B w "internal/strconv.uint64pow10" .u64 Lib.pow10Tab
theorem TabB.on {B : Nat} {w w' : World} (h : TabB B w) (hb : Below B w w') : TabB B w' := Lib.TabBelow.on h hb
theorem TabB.mono {B B' : Nat} {w : World} (h : TabB B w) (hB : B ≤ B') : TabB B' w := fun w' hb => h w' (hb.mono hB)
theorem TabB.here {B : Nat} {w : World} (h : TabB B w) : Lib.TabIs Tryz.prog w "internal/strconv.uint64pow10" .u64 Lib.pow10Tab := Lib.TabBelow.here h
theorem own_of_blk {W : World} {g base : Nat} {e : TypeId} {cells : Array Value} (h : Blk W g e cells) (hb : base ≤ g) (hc : cells.size ≤ maxLen) : W.ownsRow base e 1 (.slice (some ⟨g, 0, none⟩) cells.size cells.size) cells.size cells.toList :=
 ⟨by simp, .inr ⟨g, cells.size, cells, rfl, hb, h, Nat.le_refl _, hc, by simp, by rw [Nat.mul_one]; exact List.take_of_length_le (by simp)⟩⟩
theorem own_ne_blk {W : World} {g base n size : Nat} {t e : TypeId} {cs : Array Value} {v : Value} {xs : List Value} (h : Blk W g t cs) (ho : W.ownsRow base e size v n xs) (hne : t ≠ e) : v.ownBlock ≠ some g := by
 rcases ho.2 with ⟨rfl, _⟩ | ⟨g', cap, cur, rfl, _, hg, _⟩
 ·intro h; cases h
 ·intro e'
  injection e' with e'
  simp only at e'
  subst e'
  unfold Blk at h
  rw [h] at hg
  injection hg with hg
  injection hg with _ ht
  exact hne ht
theorem Blk.othersKept {W W' : World} {g : Nat} {t e : TypeId} {cs : Array Value} {b : Option Nat} (h : Blk W g t cs) (hk : Lib.OthersKept e b W W') (hb : some g ≠ b) (ht : t ≠ e) : Blk W' g t cs :=
 hk g _ h hb fun c fz e' => by injection e' with _ e'; exact ht e'
theorem Tryz.eU8 : ElemIs Tryz.prog 5 1 1 := elemIs_of (z := .int .u8 0) (by kernel_rfl) rfl (by decide)
def secs (n : NodeD) : List (List Int) := [n.cuts, n.kids]
def preT (n : NodeD) (k : Nat) : List UInt8 := (if n.leaf = true then 49 else 48) :: (Lib.itoa n.fact ++ ((secs n).take k).flatMap fun l => 58 :: itemsT l)
def inT (n : NodeD) (k j : Nat) : List UInt8 := preT n k ++ 58 :: itemsT (((secs n).getD k []).take j)
theorem preT_all (n : NodeD) : preT n 2 = writeT n := by simp [preT, writeT, secs]
theorem preT_zero (n : NodeD) : preT n 0 = (if n.leaf = true then 49 else 48) :: Lib.itoa n.fact := by simp [preT]
theorem inT_zero (n : NodeD) (k : Nat) : inT n k 0 = preT n k ++ [58] := by simp [inT, itemsT]
theorem inT_succ (n : NodeD) (k j : Nat) (hj : j < ((secs n).getD k []).length) : inT n k (j + 1) = inT n k j ++ Lib.itoa (((secs n).getD k [])[j]) ++ [44] := by
 unfold inT
 rw [List.take_succ_eq_append_getElem hj]
 generalize ((secs n).getD k []) = l at *
 unfold itemsT
 rw [List.flatMap_append]
 simp
theorem inT_all (n : NodeD) (k : Nat) (hk : k < 2) : inT n k ((secs n).getD k []).length = preT n (k + 1) := by
 unfold inT preT secs
 have : k = 0 ∨ k = 1 := by omega
 rcases this with rfl | rfl <;> simp
theorem items_len (l : List Int) (h : ∀ x ∈ l, I64 x) : (itemsT l).length ≤ 22 * l.length := by
 induction l with
 | nil => simp [itemsT]
 | cons a r ih =>
  rw [itemsT_cons]
  have := ih fun x hx => h x (List.mem_cons_of_mem _ hx)
  have ha := h a (by simp)
  have := Lib.itoa_length_le a ha.1 ha.2
  simp only [List.length_append, List.length_cons]; omega
theorem inT_len {n : NodeD} (hf : I64 n.fact) (hc : ∀ x ∈ n.cuts, I64 x) (hk : ∀ x ∈ n.kids, I64 x) (hcl : n.cuts.length ≤ 2000000) (hkl : n.kids.length ≤ 2000000) (k j : Nat) (hk2 : k < 2) : (inT n k j).length ≤ 200000000 := by
 have h1 := Lib.itoa_length_le n.fact hf.1 hf.2
 have h2 := items_len n.cuts hc
 have h3 := items_len n.kids hk
 have h4 : (itemsT (n.cuts.take j)).length ≤ 22 * n.cuts.length := by
  have := items_len (n.cuts.take j) (fun x hx => hc x (List.mem_of_mem_take hx))
  have : (n.cuts.take j).length ≤ n.cuts.length := by simp; omega
  omega
 have h5 : (itemsT (n.kids.take j)).length ≤ 22 * n.kids.length := by
  have := items_len (n.kids.take j) (fun x hx => hk x (List.mem_of_mem_take hx))
  have : (n.kids.take j).length ≤ n.kids.length := by simp; omega
  omega
 have : k = 0 ∨ k = 1 := by omega
 unfold inT preT secs
 rcases this with rfl | rfl <;> simp <;> omega
theorem preT_len {n : NodeD} (hf : I64 n.fact) (hc : ∀ x ∈ n.cuts, I64 x) (hk : ∀ x ∈ n.kids, I64 x) (hcl : n.cuts.length ≤ 2000000) (hkl : n.kids.length ≤ 2000000) (k : Nat) (hk2 : k < 2) : (preT n k).length ≤ 200000000 := by
 have := inT_len hf hc hk hcl hkl k 0 hk2
 rw [inT_zero] at this
 simp at this; omega
set_option maxRecDepth 100000 in
set_option maxHeartbeats 2000000 in
theorem write_any (Z : Zone) (n : NodeD) (cs : List Value) (w : World) (hn : NodeR Z w cs n) (htab : TabB w.heap.size w) (hcl : n.cuts.length ≤ 2000000) (hkl : n.kids.length ≤ 2000000) :
  Calls Tryz.prog 87 #[.agg cs.toArray] w fun e w' => e = .returned (.string ⟨(writeT n).toArray⟩) ∧ Below w.heap.size w w' := by
 obtain ⟨vc, vk, rfl, hf, hic, hik⟩ := hn
 have HC := hid hic
 have HK := hid hik
 obtain ⟨⟨AC, capC, rfl, c1, c2, c3, -⟩, c5⟩ := hic
 obtain ⟨⟨AK, capK, rfl, k1, k2, k3, -⟩, k5⟩ := hik
 have HTAB := hid htab
 have HL := hid (preT_len hf c5 k5 hcl hkl)
 have HL2 := hid (inT_len hf c5 k5 hcl hkl)
 have HF := hid hf
 clear htab hf
 have HP0 := hid (preT_zero n)
 have HPA := hid (preT_all n)
 have HI0 := hid (inT_zero n)
 have HIS := hid (inT_succ n)
 have HIA := hid (inT_all n)
 have e2u : (Tryz.prog.underlying 5) = some (.int .u8) := Tryz.underlying5
 cases hlf : n.leaf
 all_goals
  rw [hlf] at HP0
  go_enter Tryz.func87, Tryz.ntmps87
  go_wp2_with fail
  first
   | (refine (Tryz.strconv_AppendInt_10 w.heap.size 1 n.fact HF.out.1 HF.out.2 _ (Lib.byteCells [48]) _ (own_of_blk (cells := #[.int .u8 48]) (by have := Blk.new (w.alloc (.cells #[.bool false, .int .i64 n.fact, .slice AC n.cuts.length capC, .slice AK n.kids.length capK] 55)) 5 #[.int .u8 48]; simpa using this) (by simp) (by simp [maxLen])) (by simp; omega) (by omega) ((HTAB.out).on (below2 w _ _))).mono ?_)
   | (refine (Tryz.strconv_AppendInt_10 w.heap.size 1 n.fact HF.out.1 HF.out.2 _ (Lib.byteCells [49]) _ (own_of_blk (cells := #[.int .u8 49]) (by have := Blk.new (w.alloc (.cells #[.bool true, .int .i64 n.fact, .slice AC n.cuts.length capC, .slice AK n.kids.length capK] 55)) 5 #[.int .u8 49]; simpa using this) (by simp) (by simp [maxLen])) (by simp; omega) (by omega) ((HTAB.out).on (below2 w _ _))).mono ?_)
  rintro e w1 ⟨v1, rfl, hown1, hb1, hk1⟩
  have hbx := hk1 w.heap.size _ ((Below.heap_alloc _ _ _ (by simp)).trans (heap_alloc_new w _)) (by simp) (by intro c fz e; injection e with _ e; exact absurd e (by decide))
  have hbx' : Blk w1 w.heap.size 55 _ := hbx
  have r2 : w1.cell? ⟨w.heap.size, 2, none⟩ = some (.slice AC n.cuts.length capC) := hbx'.cell 2
  have r3 : w1.cell? ⟨w.heap.size, 3, none⟩ = some (.slice AK n.kids.length capK) := hbx'.cell 3
  have hsz1 : w.heap.size < w1.heap.size := hbx'.lt
  have hbl1 := Below.trans (below2 w _ _) hb1
  have HOWN := hid hown1
  have HBL := hid hbl1
  obtain ⟨A1, n1, cap1, rfl⟩ : ∃ A1 n1 cap1, v1 = .slice A1 n1 cap1 := by
   rcases hown1.2 with ⟨hv, _⟩ | ⟨g, cap, cur, hv, _⟩
   ·exact ⟨_, _, _, hv⟩
   ·exact ⟨_, _, _, hv⟩
  clear hbx hbx' hk1 hb1 hbl1 hown1
  go_wp2
  go_loopw [3, 26] (fun v i wr => ∃ k : Nat, k ≤ 2 ∧ i = .int .i64 k ∧ wr.ownsRow w.heap.size 5 1 v (preT n k).length (Lib.byteCells (preT n k)) ∧ Below w.heap.size w wr ∧ Blk wr w1.heap.size 28 #[.slice AC n.cuts.length capC, .slice AK n.kids.length capK]) (fun _ i _ => 2 - (intOf i).toNat)
  case atStart =>
   have hT := Blk.new w1 28 #[.slice AC n.cuts.length capC, .slice AK n.kids.length capK]
   refine ⟨0, by omega, rfl, ?_, HBL.out.alloc HBL.out.size _, hT⟩
   rw [HP0.out]
   have := HOWN.out.alloc (.cells #[.slice AC n.cuts.length capC, .slice AK n.kids.length capK] 28)
   simpa [Lib.byteCells, Nat.add_comm] using this
  case round =>
   obtain ⟨k, hk, rfl, hown, hbel, hT⟩ := hrel
   clear r2 r3
   by_cases hlt : k < 2
   ·have hsec : ∃ A cap, wr.cell? ⟨w1.heap.size, k, none⟩ = some (.slice A ((secs n).getD k []).length cap) ∧ Ints Z w (.slice A ((secs n).getD k []).length cap) ((secs n).getD k []) := by
     have : k = 0 ∨ k = 1 := by omega
     rcases this with rfl | rfl
     ·exact ⟨AC, capC, hT.cell 0, HC.out⟩
     ·exact ⟨AK, capK, hT.cell 1, HK.out⟩
    obtain ⟨A, cap, hcell, hints⟩ := hsec
    have HIN := hid hints
    have HLK := hid (fun j => HL2.out k j hlt)
    have HLP := hid (HL.out k hlt)
    have HJ0 := hid (HI0.out k)
    have HJS := hid (HIS.out k)
    have HJA := hid (HIA.out k hlt)
    obtain ⟨⟨_, _, _, l1, l2, l3, -⟩, l5⟩ := hints
    generalize ((secs n).getD k []) = l at *
    have hown2 := hown.alloc (.cells #[.int .u8 58] 5)
    have hT2 := hT.alloc (.cells #[.int .u8 58] 5)
    have hbel2 := hbel.alloc hbel.size (.cells #[.int .u8 58] 5)
    have HB2 := hid (And.intro hbel2 hT2)
    have HO2 := hid hown2
    clear hown hbel hT hown2 hT2 hbel2
    go_wp2_with (at_builtin; refine wpList_append1 rfl (.tmp 30) (.tmp 31) _ rfl Tryz.underlying73 Tryz.eU8 rfl HO2.out rfl (news := [.int .u8 58]) rfl (one_cell (by simp)) (by simp [Value.oneCell']) (by have := HLP.out; unfold maxLen; omega) (by have := HLP.out; omega) (by have := HB2.out.1.size; simpa using this) ?_; intro v5 w5 hown5 hg5 hat5)
    have hT5 := HB2.out.2.grown hg5 (own_ne_blk HB2.out.2 HO2.out (by decide))
    have hB5 := below_own HB2.out.1 HO2.out hg5 HB2.out.1.size (Nat.le_refl _)
    have HS5 := hid (And.intro hown5 (And.intro hB5 hT5))
    clear hT5 hB5 hown5 hg5 hat5
    go_wp2
    go_loopw [3, 35] (fun v i wr => ∃ j : Nat, j ≤ l.length ∧ i = .int .i64 j ∧ wr.ownsRow w.heap.size 5 1 v (inT n k j).length (Lib.byteCells (inT n k j)) ∧ Below w.heap.size w wr ∧ Blk wr w1.heap.size 28 #[.slice AC n.cuts.length capC, .slice AK n.kids.length capK]) (fun _ i _ => l.length - (intOf i).toNat)
    case atStart =>
     refine ⟨0, by omega, rfl, ?_, HS5.out.2.1, HS5.out.2.2⟩
     rw [HJ0.out]
     simpa [Lib.byteCells] using HS5.out.1
    case round =>
     obtain ⟨j, hj, rfl, hown, hbel, hT⟩ := hrel
     clear hcell
     by_cases hjl : j < l.length
     ·obtain ⟨b, off, rfl, hz, hbl, hc⟩ := HIN.out.at_ hjl
      have hc' : wr.cell? ⟨b, off + j, none⟩ = some (.int .i64 l[j]) := (hbel.cell (p := ⟨b, off + j, none⟩) hbl).trans hc
      have HX := hid (l5 l[j] (List.getElem_mem hjl))
      have HW := hid (And.intro hown (And.intro hbel hT))
      have HNX := hid (HJS.out j hjl)
      have hbl2 : b < wr.heap.size := by have := hbel.size; omega
      clear hown hbel hT hc
      generalize l[j] = x at *
      go_wp2_with fail
      refine (Tryz.strconv_AppendInt_10 w.heap.size _ x HX.out.1 HX.out.2 _ _ _ HW.out.1 HW.out.2.1.size (by have := HLK.out j; omega) (HTAB.out.on HW.out.2.1)).mono ?_
      rintro e w6 ⟨v6, rfl, hown6, hb6, hk6⟩
      have hT6 := (HW.out.2.2.othersKept hk6 (by simp) (by decide)).alloc (.cells #[.int .u8 44] 5)
      have hB6 := (HW.out.2.1.trans hb6).alloc (HW.out.2.1.trans hb6).size (.cells #[.int .u8 44] 5)
      have hO6 := hown6.alloc (.cells #[.int .u8 44] 5)
      have H6 := hid (And.intro hO6 (And.intro hB6 hT6))
      obtain ⟨A6, n6, cap6, rfl⟩ : ∃ A6 n6 cap6, v6 = .slice A6 n6 cap6 := by
       rcases hown6.2 with ⟨hv, _⟩ | ⟨g, cap, cur, hv, _⟩
       ·exact ⟨_, _, _, hv⟩
       ·exact ⟨_, _, _, hv⟩
      clear hT6 hB6 hO6 hb6 hk6 hown6 hc' hbl2
      have hle := Lib.itoa_length_le x HX.out.1 HX.out.2
      have hle2 := HLK.out j
      go_wp2_with (at_builtin; refine wpList_append1 rfl (.tmp 41) (.tmp 42) _ rfl Tryz.underlying73 Tryz.eU8 rfl H6.out.1 rfl (news := [.int .u8 44]) rfl (one_cell (by simp)) (by simp [Value.oneCell']) (by unfold maxLen; omega) (by omega) (by have := H6.out.2.1.size; simpa using this) ?_; intro v7 w7 hown7 hg7 hat7)
      go_roundw
      case rel =>
       refine ⟨j + 1, by omega, by go_num, ?_, below_own H6.out.2.1 H6.out.1 hg7 H6.out.2.1.size (Nat.le_refl _), H6.out.2.2.grown hg7 (own_ne_blk H6.out.2.2 H6.out.1 (by decide))⟩
       rw [HNX.out]
       simpa [Lib.byteCells, Nat.add_assoc] using hown7
      case measure => simp [intOf]; omega
     ·obtain rfl : j = l.length := by omega
      rw [HJA.out] at hown
      have HW := hid (And.intro hown (And.intro hbel hT))
      clear hown hbel hT
      go_wp2
      go_roundw
      case rel => exact ⟨k + 1, by omega, by go_num, HW.out.1, HW.out.2.1, HW.out.2.2⟩
      case measure => simp [intOf]; omega
   ·obtain rfl : k = 2 := by omega
    rw [HPA.out] at hown
    have hne : (writeT n).length ≠ 0 := by simp [writeT]
    obtain ⟨g, cap, rfl⟩ : ∃ g cap, u3 = .slice (some ⟨g, 0, none⟩) (writeT n).length cap := by
     rcases hown.2 with ⟨_, h⟩ | ⟨g, cap, cur, hv, _⟩
     ·exact absurd h hne
     ·exact ⟨g, cap, hv⟩
    have hcc := hid (hown.cells (g := g) rfl)
    have HB := hid hbel
    clear hown hbel hT hne
    go_wp2
    rw [run_convert_bytes_back wr 73 9 5 ⟨g, 0, none⟩ cap (writeT n) Tryz.underlying73 Tryz.underlying5 Tryz.underlying9 (fun j hj => hcc.out j _ (by simp [Lib.byteCells, hj]))]
    simp only [Result.andThen]
    rw [Oper.upon_value]
    go_wp2
    go_ret
    exact ⟨rfl, HB.out⟩
end Go.Proofs.YtcigjmlileckhaaGreatDoor
