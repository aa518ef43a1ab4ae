/- Walks of diagram.unique.index, maker.node. A region that draws its order, with loads first and stores last: a condition on the world is kept only until the first store comes up. Over any program. -/
import Derived.Test.YtcigjmlileckhaaGreatDoorM3
import Derived.Test.YtcigjmlileckhaaGreatDoorM9
import Derived.Test.YtcigjmlileckhaaGreatDoorM5
import Derived.WalkSpells
import Derived.WalkLawsBesides
import Derived.Deep.RegionHeld3
import Derived.WalkKit
import Derived.OrdersHeld
import Derived.StillTail
/- Walks of diagram.unique.index, maker.node. -/
namespace Go.Proofs.YtcigjmlileckhaaGreatDoor
open Go.RowKit
theorem Tryz.zeroInt (w : World) : (zeroValue 3).run Tryz.prog w = .ok (.int .i64 0) w := by kernel_rfl
theorem Tryz.lookI {w : World} {b : Nat} {kv : List (ByteArray × Value)} (h : MapIs encS w b kv) (s : ByteArray) (c : Bool) :
  (Instr.lookup 65 (.map (some b)) (.string s) c).run Tryz.prog w = .ok (if c then .tuple #[(kvGet kv s).getD (.int .i64 0), .bool (kvGet kv s).isSome] else (kvGet kv s).getD (.int .i64 0)) w :=
 h.look (keyOk_string (P := Tryz.prog) (k := 9) Tryz.underlying9) (t := 65) (e := 3) Tryz.underlying65 (Tryz.zeroInt w) s c
theorem Tryz.nilI (w : World) (r : Option Nat) : (binOp .eql 65 (.map r) (.map none)).run Tryz.prog w = .ok (.bool r.isNone) w := run_eql_map_nil w _ _ _ r Tryz.underlying65
theorem node_cells {Z : Zone} {w : World} {cs : List Value} {n : NodeD} (h : NodeR Z w cs n) : ∃ vc vk, cs = [.bool n.leaf, .int .i64 n.fact, vc, vk] := by
 obtain ⟨vc, vk, e, _⟩ := h; exact ⟨vc, vk, e⟩
theorem mkPost_box {w w' : World} {o : Obj} {M : Nat} {all : List NodeD} {F Z : Nat → Prop} (h : (∃ F', MkS w' M all F' Z ∧ ∀ x, F' x → F x ∨ (w.alloc o).heap.size ≤ x) ∧ Keeps (fun x => ¬ F x) (w.alloc o) w') :
  (∃ F', MkS w' M all F' Z ∧ ∀ x, F' x → F x ∨ w.heap.size ≤ x) ∧ Keeps (fun x => ¬ F x) w w' := by
 obtain ⟨⟨F', h1, h2⟩, h3⟩ := h
 exact ⟨⟨F', h1, fun x hx => (h2 x hx).imp id (fun h => by simp at h; omega)⟩, ((Keeps.refl _ _).alloc o).trans h3⟩
theorem mkPost_below {w W w' : World} {M : Nat} {F Z : Nat → Prop} {r : Int × List NodeD} {e : Ending} (hb : Below w.heap.size w W) (h : MkPost W M F Z r e w') : MkPost w M F Z r e w' := by
 obtain ⟨he, ⟨F', h1, h2⟩, h3⟩ := h
 exact ⟨he, ⟨F', h1, fun x hx => (h2 x hx).imp id (fun h => Nat.le_trans hb.size h)⟩, (Keeps.of_below hb).trans h3⟩
theorem node_one {Z : Zone} {w : World} {cs : List Value} {n : NodeD} (h : NodeR Z w cs n) : ∀ u ∈ cs, u.oneCell' = true := by
 obtain ⟨vc, vk, rfl, _, ⟨⟨_, _, rfl, _⟩, _⟩, ⟨⟨_, _, rfl, _⟩, _⟩⟩ := h
 intro u hu
 simp only [List.mem_cons, List.not_mem_nil, or_false] at hu
 rcases hu with rfl | rfl | rfl | rfl <;> rfl
set_option maxRecDepth 100000 in
set_option maxHeartbeats 4000000 in
/-- A node that is there already. -/
theorem index_found (M : Nat) (all : List NodeD) (F Z Zn : Nat → Prop) (n : NodeD) (cs : List Value) (w : World) (h : MkS w M all F Z) (hn : NodeR Zn w cs n) (hin : n ∈ all) :
  Calls Tryz.prog 86 #[.pointer (some ⟨M, 0, none⟩), .string (textB n), .agg cs.toArray] w fun e w' => e = .returned (.int .i64 (all.idxOf n : Nat)) ∧ Below w.heap.size w w' := by
 obtain ⟨vc, vk, rfl⟩ := node_cells hn
 clear hn
 obtain ⟨⟨v, mp, csl, h1, h2, h3, h4, h5⟩, hM, hs, hF, hZ⟩ := h
 rcases h4 with ⟨_, h⟩ | ⟨b, rfl, hm, hb, hne, -⟩
 ·subst h; simp at hin
 have hl := fun o => Tryz.lookI (hm.of_block (w' := w.alloc o) (Below.heap_alloc _ _ _ hm.lt)) (textB n) true
 have hg := kvFrom_get all 0 n
 rw [if_pos hin] at hg
 simp only [hg, Option.getD_some, Option.isSome_some, if_true, Nat.zero_add] at hl
 have c0 := h1.cell 0
 have c1 : w.cell? ⟨M, 1, none⟩ = some (.map (some b)) := h1.cell 1
 have hMl := h1.lt
 clear hg h1 h2 h3 h5 hM hs hF hZ hm hb hne
 generalize textB n = s at *
 have hnil := Tryz.nilI
 go_enter Tryz.func86, Tryz.ntmps86
 go_wp2
 go_ret
 exact ⟨rfl, below1 w _⟩
set_option maxRecDepth 100000 in
set_option maxHeartbeats 4000000 in
/-- A new node, where the map is there. -/
theorem index_new (M : Nat) (all : List NodeD) (F Z Zn : Nat → Prop) (n : NodeD) (cs : List Value) (w : World) (h : MkS w M all F Z) (hn : NodeR Zn w cs n) (hz : ∀ b, Zn b → ¬ F b ∧ b < w.heap.size) (hin : n ∉ all) (hlen : all.length ≤ 1000000) (hne : all ≠ []) :
  Calls Tryz.prog 86 #[.pointer (some ⟨M, 0, none⟩), .string (textB n), .agg cs.toArray] w (MkPost w M F (fun b => Z b ∨ Zn b) ((all.length : Nat), all ++ [n])) := by
 have hn' := hn
 obtain ⟨vc, vk, rfl⟩ := node_cells hn
 obtain ⟨⟨v, mp, csl, h1, h2, h3, h4, h5⟩, hM, hs, hF, hZ⟩ := h
 rcases h4 with ⟨_, h⟩ | ⟨b, rfl, hm, hb, hbne, -⟩
 ·exact absurd h hne
 obtain ⟨A, cap, rfl, hcap, hmax, -⟩ := Row.of_own h2 (by decide)
 have hl := fun o => Tryz.lookI (hm.of_block (w' := w.alloc o) (Below.heap_alloc _ _ _ hm.lt)) (textB n) true
 have hg := kvFrom_get all 0 n
 rw [if_neg hin] at hg
 simp only [hg, Option.getD_none, Option.isSome_none, if_true] at hl
 have hset := kvFrom_set all 0 n hin
 rw [Nat.zero_add] at hset
 have HSET := hid hset
 have c0 : w.cell? ⟨M, 0, none⟩ = some (.slice A all.length cap) := h1.cell 0
 have c1 : w.cell? ⟨M, 1, none⟩ = some (.map (some b)) := h1.cell 1
 have hMl := h1.lt
 have hnil := Tryz.nilI
 have H := hid (And.intro h1 (And.intro h2 (And.intro h3 (And.intro h5 (And.intro hM (And.intro hs (And.intro hF hZ)))))))
 have HMAP := hid (fun o => hm.of_block (w' := w.alloc o) (Below.heap_alloc _ _ _ hm.lt))
 have HB := hid (And.intro hb hbne)
 have HONE := hid (node_one hn')
 have HMB := hid (own_ne_map h2 hm)
 have HN := hid hn'
 have HZN := hid hz
 clear hg h1 h2 h3 h5 hM hs hF hZ hm hb hbne hset hn' hn hz hin hne
 generalize textB n = s at *
 have hle : ∀ i : Nat, i < 4 → (w.alloc (.cells #[.bool n.leaf, .int .i64 n.fact, vc, vk] 55)).frozen? ⟨M, i, none⟩ = false := fun i _ => ((H.out.1).alloc _).frozen i
 go_enter Tryz.func86, Tryz.ntmps86
 go_wp2_with (at_mapUpdate; refine wpList_mapStore rfl (.tmp 37) (.tmp 38) _ rfl (keyOk_string (P := Tryz.prog) (k := 9) Tryz.underlying9) (e := 3) Tryz.underlying65 rfl (HMAP.out _) s rfl ?_; intro w1 hm1 hk1 hsz1 hce1 hfr1)
 have hMb := (H.out.1.alloc _).keep hk1 HB.out.2.symm
 have hbl : b < w.heap.size := H.out.2.2.2.2.2.2.1 b HB.out.1
 have hbx := (Blk.new w 55 #[.bool n.leaf, .int .i64 n.fact, vc, vk]).keep hk1 (by show w.heap.size ≠ b; omega)
 have hown1 := own_keep (H.out.2.1.alloc _) hk1 (fun k hk e => HMB.out (e ▸ hk))
 have f0 := hMb.frozen 0
 obtain ⟨b0, b1, b2, b3⟩ : w1.cell? ⟨w.heap.size, 0, none⟩ = some (.bool n.leaf) ∧ w1.cell? ⟨w.heap.size, 1, none⟩ = some (.int .i64 n.fact) ∧ w1.cell? ⟨w.heap.size, 2, none⟩ = some vc ∧ w1.cell? ⟨w.heap.size, 3, none⟩ = some vk := ⟨hbx.cell 0, hbx.cell 1, hbx.cell 2, hbx.cell 3⟩
 have m0 : w1.cell? ⟨M, 0, none⟩ = some (.slice A all.length cap) := hMb.cell 0
 have hMl1 : M < w1.heap.size := hMb.lt
 have HOW := hid (show w1.drew.ownsRow 0 55 4 (.slice A all.length cap) all.length csl.flatten from hown1)
 have MKX := hid (fun (w5 : World) (row : Option Nat) (hg : (w1.alloc (.cells #[.bool n.leaf, .int .i64 n.fact, vc, vk] 55)).drew.grownBy w5 (Value.slice A all.length cap).ownBlock) => (hMb.alloc (.cells #[.bool n.leaf, .int .i64 n.fact, vc, vk] 55)).drew.grown hg (fun e => (H.out.2.2.2.1 M e).2 rfl))
 have HG := hid (fun (w5 : World) (v5 : Value) (ho : w5.ownsRow 0 55 4 v5 (all.length + 1) (csl.flatten ++ [.bool n.leaf, .int .i64 n.fact, vc, vk])) (hg : (w1.alloc (.cells #[.bool n.leaf, .int .i64 n.fact, vc, vk] 55)).drew.grownBy w5 (Value.slice A all.length cap).ownBlock) (ha : v5.ownBlock = (Value.slice A all.length cap).ownBlock ∨ v5.ownBlock = some (w1.alloc (.cells #[.bool n.leaf, .int .i64 n.fact, vc, vk] 55)).drew.heap.size) =>
  mkPost_box (mk_grown (H.out.1.alloc (.cells #[.bool n.leaf, .int .i64 n.fact, vc, vk] 55)) (H.out.2.1.alloc _) (NdL.keep ((Keeps.refl _ _).alloc _) H.out.2.2.1) H.out.2.2.2.1 H.out.2.2.2.2.1 HB.out.1 HB.out.2 HMB.out H.out.2.2.2.2.2.1 (fun x hx => by have := H.out.2.2.2.2.2.2.1 x hx; simp; omega) (fun x hx => by have := H.out.2.2.2.2.2.2.2 x hx; simp; omega) (HN.out.keep ((Keeps.refl _ _).alloc _)) (fun x hx => ⟨(HZN.out x hx).1, by have := (HZN.out x hx).2; simp; omega⟩) hk1 (HSET.out ▸ hm1) hg ho ha))
 have HM1 := hid (And.intro hMb (And.intro hbx (And.intro hm1 (And.intro hk1 hsz1))))
 clear hMb hbx hm1 hk1 hce1 hfr1 hown1 c0 c1 hle hl hnil hMl hsz1
 go_region_law (refine step_append1 rfl (.tmp 44) (.tmp 46) _ rfl Tryz.underlying32 Tryz.eNode rfl (HOW.out.alloc _) rfl (news := [.bool n.leaf, .int .i64 n.fact, vc, vk]) rfl (blkc (cs := [.bool n.leaf, .int .i64 n.fact, vc, vk]) (t := 55) (g := w1.heap.size) (by have := Blk.new w1 55 #[.bool n.leaf, .int .i64 n.fact, vc, vk]; exact this.drew)) HONE.out (by unfold maxLen; omega) (by omega) (Nat.zero_le _) ?_; intro v5 w5 hown5 hg5 hat5; obtain ⟨g5, cap5, hv5⟩ := own_form hown5; subst hv5; have hM5 := MKX.out _ none hg5; have d0 := hM5.cell 0; have d1 := hM5.frozen 0; have d2 := hM5.lt)
 all_goals
  have HE := HG.out _ _ hown5 hg5 hat5
  clear d0 d1 d2
  go_wp2
  go_ret
  exact ⟨rfl, HE⟩
theorem mkPost_map {w w' : World} {o : Obj} {M : Nat} {all : List NodeD} {F Z : Nat → Prop} {u : Value} (hM : F M) (_hMl : M < w.heap.size)
  (h : (∃ F', MkS w' M all F' Z ∧ ∀ x, F' x → (F x ∨ x = w.heap.size + 1) ∨ (((w.setCell ⟨M, 1, none⟩ u).alloc o).alloc (.map #[] 0)).heap.size ≤ x) ∧ Keeps (fun x => ¬ (F x ∨ x = w.heap.size + 1)) (((w.setCell ⟨M, 1, none⟩ u).alloc o).alloc (.map #[] 0)) w') :
  (∃ F', MkS w' M all F' Z ∧ ∀ x, F' x → F x ∨ w.heap.size ≤ x) ∧ Keeps (fun x => ¬ F x) w w' := by
 obtain ⟨⟨F', h1, h2⟩, h3⟩ := h
 refine ⟨⟨F', h1, fun x hx => ?_⟩, Keeps.wide ?_⟩
 ·rcases h2 x hx with (h | h) | h
  ·exact Or.inl h
  ·exact Or.inr (by omega)
  ·simp at h; exact Or.inr (by omega)
 ·refine Keeps.trans (w' := (((w.setCell ⟨M, 1, none⟩ u).alloc o).alloc (.map #[] 0))) ?_ (h3.mono fun x _ hx => ?_)
  ·exact (((Keeps.refl _ _).setCell (fun _ hx => hx.1 hM) _).alloc _).alloc _
  ·rintro (h | h)
   ·exact hx.1 h
   ·omega
set_option maxRecDepth 100000 in
set_option maxHeartbeats 4000000 in
/-- The first node. -/
theorem index_nil (M : Nat) (F Z Zn : Nat → Prop) (n : NodeD) (cs : List Value) (w : World) (h : MkS w M [] F Z) (hn : NodeR Zn w cs n) (hz : ∀ b, Zn b → ¬ F b ∧ b < w.heap.size) :
  Calls Tryz.prog 86 #[.pointer (some ⟨M, 0, none⟩), .string (textB n), .agg cs.toArray] w (MkPost w M F (fun b => Z b ∨ Zn b) ((([] : List NodeD).length : Nat), [] ++ [n])) := by
 have hn' := hn
 obtain ⟨vc, vk, rfl⟩ := node_cells hn
 obtain ⟨⟨v, mp, csl, h1, h2, h3, h4, h5⟩, hM, hs, hF, hZ⟩ := h
 obtain rfl : mp = .map none := by
  rcases h4 with ⟨h, _⟩ | ⟨_, _, _, _, _, h⟩
  ·exact h
  ·exact absurd rfl h
 clear h4
 obtain ⟨A, cap, rfl, hcap, hmax, -⟩ := Row.of_own h2 (by decide)
 have hc0 : csl = [] := by
  cases csl with
  | nil => rfl
  | cons => exact h3.elim
 subst hc0
 have c0 : w.cell? ⟨M, 0, none⟩ = some (.slice A 0 cap) := h1.cell 0
 have c1 : w.cell? ⟨M, 1, none⟩ = some (.map none) := h1.cell 1
 have f1 := h1.frozen 1
 have hMl := h1.lt
 have hnil := Tryz.nilI
 have hmm := @run_makeMap Tryz.prog
 have hgr : kvSet (kvFrom [] 0) (textB n) (.int .i64 0) = kvFrom ([] ++ [n]) 0 := rfl
 have HSET := hid hgr
 have HONE := hid (node_one hn')
 let W0 := (((w.setCell ⟨M, 1, none⟩ (.map (some (w.heap.size + 1)))).alloc (.cells #[.bool n.leaf, .int .i64 n.fact, vc, vk] 55)).alloc (.map #[] 0))
 have hW0m : MapIs encS W0 (w.heap.size + 1) [] := by
  have := MapIs.made ((w.setCell ⟨M, 1, none⟩ (.map (some (w.heap.size + 1)))).alloc (.cells #[.bool n.leaf, .int .i64 n.fact, vc, vk] 55)) encS
  simp only [World.size_alloc, World.size_setCell] at this
  exact this
 have hl := Tryz.lookI hW0m (textB n) true
 simp only [kvGet, Option.getD_none, Option.isSome_none, if_true] at hl
 have hW0M : Blk W0 M 69 #[.slice A 0 cap, .map (some (w.heap.size + 1))] := by
  have := (((h1.set_ 1 (.map (some (w.heap.size + 1)))).alloc (.cells #[.bool n.leaf, .int .i64 n.fact, vc, vk] 55)).alloc (.map #[] 0))
  exact this
 have hkW : Keeps (fun x => x ≠ M) w W0 := (((Keeps.refl _ _).setCell (fun _ hx => hx rfl) _).alloc _).alloc _
 have hW0s : W0.heap.size = w.heap.size + 2 := by simp [W0]
 have hW0b : Blk W0 w.heap.size 55 #[.bool n.leaf, .int .i64 n.fact, vc, vk] := by
  have := ((Blk.new (w.setCell ⟨M, 1, none⟩ (.map (some (w.heap.size + 1)))) 55 #[.bool n.leaf, .int .i64 n.fact, vc, vk]).alloc (.map #[] 0))
  simp only [World.size_setCell] at this
  exact this
 have hW0o : W0.ownsRow 0 55 4 (.slice A 0 cap) 0 ([] : List (List Value)).flatten := own_keep h2 hkW (fun k hk => (h5 k hk).2)
 have hnb : (Value.slice A 0 cap).ownBlock ≠ some (w.heap.size + 1) := fun e => by have := (h2.lt _ e).2; omega
 have H := hid (And.intro h1 (And.intro h2 (And.intro h5 (And.intro hM (And.intro hs (And.intro hF hZ))))))
 have HW := hid (And.intro hW0M (And.intro hkW (And.intro hW0s (And.intro hW0b (And.intro hW0o (And.intro hnb hW0m))))))
 have HN := hid hn'
 have HZN := hid hz
 have HMAP := hid (fun (h : MapIs encS W0 (w.heap.size + 1) []) => h)
 have w0c : W0.cell? ⟨M, 0, none⟩ = some (.slice A 0 cap) := hW0M.cell 0
 have w1c : W0.cell? ⟨M, 1, none⟩ = some (.map (some (w.heap.size + 1))) := hW0M.cell 1
 simp only [W0] at hl w0c w1c
 clear h1 h2 h3 h5 hM hs hF hZ hn' hn hz hgr hW0M hkW hW0b hW0o hW0m hnb hW0s
 generalize textB n = s at *
 go_enter Tryz.func86, Tryz.ntmps86
 go_wp2_with (at_mapUpdate; refine wpList_mapStore rfl (.tmp 37) (.tmp 38) _ rfl (keyOk_string (P := Tryz.prog) (k := 9) Tryz.underlying9) (e := 3) Tryz.underlying65 rfl (HW.out.2.2.2.2.2.2) s rfl ?_; intro w1 hm1 hk1 hsz1 hce1 hfr1)
 have hMb := HW.out.1.keep hk1 (by show M ≠ w.heap.size + 1; omega)
 have hbx := HW.out.2.2.2.1.keep hk1 (by show w.heap.size ≠ w.heap.size + 1; omega)
 have hown1 := own_keep HW.out.2.2.2.2.1 hk1 (fun k hk e => HW.out.2.2.2.2.2.1 (e ▸ hk))
 have f0 := hMb.frozen 0
 obtain ⟨b0, b1, b2, b3⟩ : w1.cell? ⟨w.heap.size, 0, none⟩ = some (.bool n.leaf) ∧ w1.cell? ⟨w.heap.size, 1, none⟩ = some (.int .i64 n.fact) ∧ w1.cell? ⟨w.heap.size, 2, none⟩ = some vc ∧ w1.cell? ⟨w.heap.size, 3, none⟩ = some vk := ⟨hbx.cell 0, hbx.cell 1, hbx.cell 2, hbx.cell 3⟩
 have m0 : w1.cell? ⟨M, 0, none⟩ = some (.slice A 0 cap) := hMb.cell 0
 have hMl1 : M < w1.heap.size := hMb.lt
 have HOW := hid (show w1.drew.ownsRow 0 55 4 (.slice A 0 cap) 0 ([] : List (List Value)).flatten from hown1)
 have MKX := hid (fun (w5 : World) (row : Option Nat) (hg : (w1.alloc (.cells #[.bool n.leaf, .int .i64 n.fact, vc, vk] 55)).drew.grownBy w5 (Value.slice A 0 cap).ownBlock) => (hMb.alloc (.cells #[.bool n.leaf, .int .i64 n.fact, vc, vk] 55)).drew.grown hg (fun e => (H.out.2.2.1 M e).2 rfl))
 have HG := hid (fun (w5 : World) (v5 : Value) (ho : w5.ownsRow 0 55 4 v5 (0 + 1) (([] : List (List Value)).flatten ++ [.bool n.leaf, .int .i64 n.fact, vc, vk])) (hg : (w1.alloc (.cells #[.bool n.leaf, .int .i64 n.fact, vc, vk] 55)).drew.grownBy w5 (Value.slice A 0 cap).ownBlock) (ha : v5.ownBlock = (Value.slice A 0 cap).ownBlock ∨ v5.ownBlock = some (w1.alloc (.cells #[.bool n.leaf, .int .i64 n.fact, vc, vk] 55)).drew.heap.size) =>
  mkPost_map H.out.2.2.2.1 H.out.1.lt (mk_grown (all := []) (csl := []) (Fa := fun x => F x ∨ x = w.heap.size + 1) HW.out.1 HW.out.2.2.2.2.1 trivial (fun k hk => ⟨Or.inl (H.out.2.2.1 k hk).1, (H.out.2.2.1 k hk).2⟩) (Or.inl H.out.2.2.2.1) (Or.inr rfl) (by have := H.out.1.lt; omega) HW.out.2.2.2.2.2.1
   (fun x hx h => by
    rcases h with h | h
    ·exact H.out.2.2.2.2.1 x hx h
    ·have := H.out.2.2.2.2.2.2 x hx; omega)
   (fun x hx => by
    rw [HW.out.2.2.1]
    rcases hx with h | h
    ·have := H.out.2.2.2.2.2.1 x h; omega
    ·omega)
   (fun x hx => by rw [HW.out.2.2.1]; have := H.out.2.2.2.2.2.2 x hx; omega)
   (HN.out.keep (HW.out.2.1.mono fun x _ hx e => (HZN.out x hx).1 (e ▸ H.out.2.2.2.1)))
   (fun x hx => ⟨fun h => by
    rcases h with h | h
    ·exact (HZN.out x hx).1 h
    ·have := (HZN.out x hx).2; omega, by rw [HW.out.2.2.1]; have := (HZN.out x hx).2; omega⟩) hk1 (HSET.out ▸ hm1) hg ho ha))
 clear hMb hbx hm1 hk1 hce1 hfr1 hown1 c0 c1 hl hnil hMl hsz1 w0c w1c f1 hmm
 go_region_law (refine step_append1 rfl (.tmp 44) (.tmp 46) _ rfl Tryz.underlying32 Tryz.eNode rfl (HOW.out.alloc _) rfl (news := [.bool n.leaf, .int .i64 n.fact, vc, vk]) rfl (blkc (cs := [.bool n.leaf, .int .i64 n.fact, vc, vk]) (t := 55) (g := w1.heap.size) (by have := Blk.new w1 55 #[.bool n.leaf, .int .i64 n.fact, vc, vk]; exact this.drew)) HONE.out (by unfold maxLen; omega) (by omega) (Nat.zero_le _) ?_; intro v5 w5 hown5 hg5 hat5; obtain ⟨g5, cap5, hv5⟩ := own_form hown5; subst hv5; have hM5 := MKX.out _ none hg5; have d0 := hM5.cell 0; have d1 := hM5.frozen 0; have d2 := hM5.lt)
 all_goals
  have HE := HG.out _ _ hown5 hg5 hat5
  clear d0 d1 d2
  go_wp2
  go_ret
  exact ⟨rfl, HE⟩
theorem index_any (M : Nat) (all : List NodeD) (F Z Zn : Nat → Prop) (n : NodeD) (cs : List Value) (w : World) (h : MkS w M all F Z) (hn : NodeR Zn w cs n) (hz : ∀ b, Zn b → ¬ F b ∧ b < w.heap.size) (hlen : all.length ≤ 1000000) :
  Calls Tryz.prog 86 #[.pointer (some ⟨M, 0, none⟩), .string (textB n), .agg cs.toArray] w (MkPost w M F (fun b => Z b ∨ Zn b) (nodeS all n)) := by
 by_cases hin : n ∈ all
 ·refine (index_found M all F Z Zn n cs w h hn hin).mono ?_
  rintro e w' ⟨rfl, hb⟩
  unfold nodeS
  rw [if_pos hin]
  refine ⟨rfl, ⟨F, ?_, fun b hb => Or.inl hb⟩, .of_below hb⟩
  have h' := h.below hb
  obtain ⟨v, mp, csl, h1, h2, h3, h4, h5⟩ := h'.ex
  refine ⟨⟨v, mp, csl, h1, h2, NdL.mono (fun b hb => Or.inl hb) h3, h4, h5⟩, h'.fM, fun b hb => ?_, h'.liveF, fun b hb => ?_⟩
  ·rcases hb with hb | hb
   ·exact h'.sep b hb
   ·exact (hz b hb).1
  ·rcases hb with hb' | hb'
   ·exact h'.liveZ b hb'
   ·exact Nat.lt_of_lt_of_le (hz b hb').2 hb.size
 ·have e : nodeS all n = (((all.length : Nat) : Int), all ++ [n]) := by unfold nodeS; rw [if_neg hin]
  rw [e]
  by_cases hne : all = []
  ·subst hne
   exact index_nil M F Z Zn n cs w h hn hz
  ·exact index_new M all F Z Zn n cs w h hn hz hin hlen hne
/-- What is asked of a node that is made. -/
structure NodeOk (w : World) (F Zn : Nat → Prop) (n : NodeD) (cs : List Value) : Prop where
 is : NodeR Zn w cs n
 off : ∀ b, Zn b → ¬ F b ∧ b < w.heap.size
 cuts : n.cuts.length ≤ 2000000
 kids : n.kids.length ≤ 2000000
set_option maxRecDepth 100000 in
set_option maxHeartbeats 4000000 in
theorem node_any (M : Nat) (all : List NodeD) (F Z Zn : Nat → Prop) (n : NodeD) (cs : List Value) (w : World) (h : MkS w M all F Z) (hn : NodeOk w F Zn n cs) (hlen : all.length ≤ 1000000) (htab : TabB w.heap.size w) :
  Calls Tryz.prog 40 #[.pointer (some ⟨M, 0, none⟩), .agg cs.toArray] w (MkPost w M F (fun b => Z b ∨ Zn b) (nodeS all n)) := by
 obtain ⟨hn, hz, hc, hk⟩ := hn
 have hn' := hn
 obtain ⟨vc, vk, rfl⟩ := node_cells hn
 have hMl := h.liveF M h.fM
 have HW := hid (fun W (hb : Below w.heap.size w W) => write_any Zn n _ W (hn'.keep (.of_below hb)) ((htab.on hb).mono hb.size) hc hk)
 have HI := hid (fun W (hb : Below w.heap.size w W) => index_any M all F Z Zn n _ W (h.below hb) (hn'.keep (.of_below hb)) (fun b hb' => ⟨(hz b hb').1, Nat.lt_of_lt_of_le (hz b hb').2 hb.size⟩) hlen)
 have HP := hid (fun (W W' : World) (e : Ending) (hb : Below w.heap.size w W) (hp : MkPost W M F (fun b => Z b ∨ Zn b) (nodeS all n) e W') => mkPost_below hb hp)
 have HLF := hid (show ¬ F w.heap.size from fun hx => by have := h.liveF _ hx; omega)
 clear h hn hn' hz
 go_enter Tryz.func40, Tryz.ntmps40
 go_wp2
 go_region_held3 (fun w' => w'.cell? ⟨w.heap.size, 0, none⟩ = some (.bool n.leaf) ∧ w'.cell? ⟨w.heap.size, 1, none⟩ = some (.int .i64 n.fact) ∧ w'.cell? ⟨w.heap.size, 2, none⟩ = some vc ∧ w'.cell? ⟨w.heap.size, 3, none⟩ = some vk) (first | exact ⟨p0, p1, p2, p3⟩ | exact ⟨q0, q1, q2, q3⟩ | (refine ⟨?_, ?_, ?_, ?_⟩ <;> go_keep))
  (first
   | (go_at_call 87; refine (HW.out _ (below1 w _).drew).mono ?_; rintro e w1 ⟨rfl, hb1⟩; have hbx := (Blk.new w 55 #[.bool n.leaf, .int .i64 n.fact, vc, vk]).drew.below hb1 (by simp); have q0 : w1.cell? ⟨w.heap.size, 0, none⟩ = some (.bool n.leaf) := hbx.cell 0; have q1 : w1.cell? ⟨w.heap.size, 1, none⟩ = some (.int .i64 n.fact) := hbx.cell 1; have q2 : w1.cell? ⟨w.heap.size, 2, none⟩ = some vc := hbx.cell 2; have q3 : w1.cell? ⟨w.heap.size, 3, none⟩ = some vk := hbx.cell 3; have hbw := HBEL_trans (below1 w _).drew hb1 (by simp))
   | (go_at_call 86; refine (HI.out _ hbw).mono ?_; rintro e w2 ⟨rfl, hp2⟩; have hby := hbx.keep hp2.2 HLF.out; have p0 : w2.cell? ⟨w.heap.size, 0, none⟩ = some (.bool n.leaf) := hby.cell 0; have p1 : w2.cell? ⟨w.heap.size, 1, none⟩ = some (.int .i64 n.fact) := hby.cell 1; have p2 : w2.cell? ⟨w.heap.size, 2, none⟩ = some vc := hby.cell 2; have p3 : w2.cell? ⟨w.heap.size, 3, none⟩ = some vk := hby.cell 3))
 all_goals
  have HE := HP.out _ _ _ hbw ⟨rfl, hp2⟩
  have HEH := hid HE
  clear HE
  go_wp2
  go_ret
  exact HEH.out
end Go.Proofs.YtcigjmlileckhaaGreatDoor
/- A region that draws its order, with loads first and stores last: a condition on the world is kept only until the first store comes up. Over any program. -/
namespace Go.Proofs.YtcigjmlileckhaaGreatDoor
open Go.RowKit
section
variable {P : Program} {ops : Array Oper} {Q : Exit → Act → World → Prop} {md : Region.Mode} {S : World → Prop} {s : Nat}
/-- Whatever order is picked; S holds behind every operation until number s has come up. -/
def wpAnyS (P : Program) (md : Region.Mode) (ops : Array Oper) (Q : Exit → Act → World → Prop) (S : World → Prop) (s : Nat) : Nat → Array Bool → Act → World → Prop
 | 0, listed, a, w => Region.ready md ops listed = [] ∧ Q .normal a w
 | fuel + 1, listed, a, w =>
  (Region.ready md ops listed = [] → Q .normal a w) ∧
  ∀ i ∈ Region.ready md ops listed, wpOp P ops Q i (fun a' w' => ((listed.setIfInBounds i true).getD s true = true ∨ S w') ∧ wpAnyS P md ops Q S s fuel (listed.setIfInBounds i true) a' w') a w
theorem wpAny_of_S : ∀ (fuel : Nat) (listed : Array Bool) (a : Act) (w : World), wpAnyS P md ops Q S s fuel listed a w → wpAny P md ops Q fuel listed a w
 | 0, _, _, _, h => h
 | fuel + 1, _, _, _, h => ⟨h.1, fun i hi => wpOp_mono (fun a' w' h' => wpAny_of_S fuel _ a' w' h'.2) (h.2 i hi)⟩
theorem wpAnyS_first {i : Nat} {oi : Oper} {v : Value} (hi : ops[i]? = some oi) (hsel : ∀ (j : Nat) (o : Oper) cs b, ops[j]? = some o → o.op ≠ .select cs b)
  (hQ : ∀ c a w, Q (.panic c) (a.put oi.dst v) w → Q (.panic c) a w) (hwait : ∃ os, ops[s]? = some os ∧ ∃ e ∈ os.after, Region.binds md e = true ∧ e.on = i) (hsi : i ≠ s) :
  ∀ (fuel : Nat) (listed : Array Bool) (a : Act) (w : World), listed.getD s true = false →
   (∀ j oj, ops[j]? = some oj → j ≠ i → listed.getD j true = false → (∀ e ∈ oj.after, Region.binds md e = true → e.on ≠ i) → oi.apart ops oj = true) →
   i ∈ Region.ready md ops listed → YieldsIf P ops S oi v a → S w →
   wpAnyS P md ops Q S s fuel (listed.setIfInBounds i true) (a.put oi.dst v) w → wpAnyS P md ops Q S s (fuel + 1) listed a w := by
 intro fuel
 induction fuel with
 | zero =>
  intro listed a w _ _ hr hy hS H
  refine ⟨fun h => (by rw [h] at hr; cases hr), fun j hj => ?_⟩
  by_cases hji : j = i
  ·subst hji; exact hy.wpOp hi hS ⟨Or.inr hS, H⟩
  ·have := ready_mono hj hji
   rw [H.1] at this
   cases this
 | succ fuel ih =>
  intro listed a w hls hfree hr hy hS H
  refine ⟨fun h => (by rw [h] at hr; cases hr), fun j hj => ?_⟩
  by_cases hji : j = i
  ·subst hji; exact hy.wpOp hi hS ⟨Or.inr hS, H⟩
  ·have h1 := H.2 j (ready_mono hj hji)
   obtain ⟨hjun, oj, hoj, hall⟩ := mem_ready.1 hj
   have hnot : ∀ e ∈ oj.after, Region.binds md e = true → e.on ≠ i := fun e he hb heq => by
    have h1 := hall e he hb
    have h0 := (mem_ready.1 hr).1
    rw [heq] at h1
    rcases Nat.lt_or_ge i listed.size with h' | h'
    ·simp [h'] at h0 h1; rw [h0] at h1; cases h1
    ·simp [Array.getElem?_eq_none h'] at h1
   have hjs : j ≠ s := fun e => by
    subst e
    obtain ⟨os, hos, e, he, hb, hon⟩ := hwait
    rw [hos] at hoj
    injection hoj with hoj
    subst hoj
    exact hnot e he hb hon
   have h2 := wpOp_putIf hoj (hfree j oj hoj hji hjun hnot) (fun cs b => hsel i oi cs b hi) (fun cs b => hsel j oj cs b hoj) hQ hy h1
   have hfree' : ∀ k ok, ops[k]? = some ok → k ≠ i → (listed.setIfInBounds j true).getD k true = false →
     (∀ e ∈ ok.after, Region.binds md e = true → e.on ≠ i) → oi.apart ops ok = true := fun k ok hk hki hun hno => by
    refine hfree k ok hk hki ?_ hno
    by_cases hjk : j = k
    ·subst hjk; exact hjun
    ·rw [getD_set_ne true hjk] at hun; exact hun
   refine wpOp_mono (fun a' w' h3 => ?_) h2
   have hS' : S w' := by
    rcases h3.2.1 with h | h
    ·rw [getD_set_ne true hjs, getD_set_ne true hsi, hls] at h; cases h
    ·exact h
   refine ⟨Or.inr hS', ih (listed.setIfInBounds j true) a' w' (by rw [getD_set_ne true hjs]; exact hls) hfree' (ready_mono hr (Ne.symm hji)) h3.1 hS' ?_⟩
   rw [Array.setIfInBounds_comm _ _ hji]
   exact h3.2.2
theorem wpAnyS_take {i : Nat} {oi : Oper} {v : Value} {fuel : Nat} {listed : Array Bool} {a : Act} {w : World} (hi : ops[i]? = some oi)
  (hs : Region.noSelect ops = true) (hf : (Region.free md ops listed i && (Region.ready md ops listed).contains i && Region.waitsFor md ops s i && !(listed.getD s true) && (i != s)) = true)
  (hQ : ∀ c a w, Q (.panic c) (a.put oi.dst v) w → Q (.panic c) a w) (hy : YieldsIf P ops S oi v a) (hS : S w)
  (h : wpAnyS P md ops Q S s fuel (listed.setIfInBounds i true) (a.put oi.dst v) w) : wpAnyS P md ops Q S s (fuel + 1) listed a w := by
 simp only [Bool.and_eq_true, Bool.not_eq_true', bne_iff_ne] at hf
 obtain ⟨⟨⟨⟨h1, h2⟩, h3⟩, h4⟩, h5⟩ := hf
 exact wpAnyS_first hi (Region.noSelect_spec hs) hQ (Region.waitsFor_spec h3) h5 fuel listed a w h4 (Region.free_spec hi h1) (by simpa using h2) hy hS h
theorem wpAnyS_first0 {i : Nat} {oi : Oper} {v : Value} (hi : ops[i]? = some oi) (hsel : ∀ (j : Nat) (o : Oper) cs b, ops[j]? = some o → o.op ≠ .select cs b)
  (hQ : ∀ c a w, Q (.panic c) (a.put oi.dst v) w → Q (.panic c) a w) (hsi : i ≠ s) :
  ∀ (fuel : Nat) (listed : Array Bool) (a : Act) (w : World),
   (∀ j oj, ops[j]? = some oj → j ≠ i → listed.getD j true = false → (∀ e ∈ oj.after, Region.binds md e = true → e.on ≠ i) → oi.apart ops oj = true) →
   i ∈ Region.ready md ops listed → YieldsIf P ops (fun _ => True) oi v a → (listed.getD s true = true ∨ S w) →
   wpAnyS P md ops Q S s fuel (listed.setIfInBounds i true) (a.put oi.dst v) w → wpAnyS P md ops Q S s (fuel + 1) listed a w := by
 intro fuel
 induction fuel with
 | zero =>
  intro listed a w _ hr hy hS H
  refine ⟨fun h => (by rw [h] at hr; cases hr), fun j hj => ?_⟩
  by_cases hji : j = i
  ·subst hji; exact hy.wpOp hi trivial ⟨by rw [getD_set_ne true hsi]; exact hS, H⟩
  ·have := ready_mono hj hji
   rw [H.1] at this
   cases this
 | succ fuel ih =>
  intro listed a w hfree hr hy hS H
  refine ⟨fun h => (by rw [h] at hr; cases hr), fun j hj => ?_⟩
  by_cases hji : j = i
  ·subst hji; exact hy.wpOp hi trivial ⟨by rw [getD_set_ne true hsi]; exact hS, H⟩
  ·have h1 := H.2 j (ready_mono hj hji)
   obtain ⟨hjun, oj, hoj, hall⟩ := mem_ready.1 hj
   have hnot : ∀ e ∈ oj.after, Region.binds md e = true → e.on ≠ i := fun e he hb heq => by
    have h1 := hall e he hb
    have h0 := (mem_ready.1 hr).1
    rw [heq] at h1
    rcases Nat.lt_or_ge i listed.size with h' | h'
    ·simp [h'] at h0 h1; rw [h0] at h1; cases h1
    ·simp [Array.getElem?_eq_none h'] at h1
   have h2 := wpOp_putIf hoj (hfree j oj hoj hji hjun hnot) (fun cs b => hsel i oi cs b hi) (fun cs b => hsel j oj cs b hoj) hQ hy h1
   have hfree' : ∀ k ok, ops[k]? = some ok → k ≠ i → (listed.setIfInBounds j true).getD k true = false →
     (∀ e ∈ ok.after, Region.binds md e = true → e.on ≠ i) → oi.apart ops ok = true := fun k ok hk hki hun hno => by
    refine hfree k ok hk hki ?_ hno
    by_cases hjk : j = k
    ·subst hjk; exact hjun
    ·rw [getD_set_ne true hjk] at hun; exact hun
   refine wpOp_mono (fun a' w' h3 => ?_) h2
   have hS' : (listed.setIfInBounds j true).getD s true = true ∨ S w' := by
    have := h3.2.1
    rw [Array.setIfInBounds_comm _ _ (Ne.symm hji), getD_set_ne true hsi] at this
    exact this
   refine ⟨hS', ih (listed.setIfInBounds j true) a' w' hfree' (ready_mono hr (Ne.symm hji)) h3.1 hS' ?_⟩
   rw [Array.setIfInBounds_comm _ _ hji]
   exact h3.2.2
theorem wpAnyS_take0 {i : Nat} {oi : Oper} {v : Value} {fuel : Nat} {listed : Array Bool} {a : Act} {w : World} (hi : ops[i]? = some oi)
  (hs : Region.noSelect ops = true) (hf : (Region.free md ops listed i && (Region.ready md ops listed).contains i && (i != s)) = true)
  (hQ : ∀ c a w, Q (.panic c) (a.put oi.dst v) w → Q (.panic c) a w) (hy : YieldsIf P ops (fun _ => True) oi v a) (hS : listed.getD s true = true ∨ S w)
  (h : wpAnyS P md ops Q S s fuel (listed.setIfInBounds i true) (a.put oi.dst v) w) : wpAnyS P md ops Q S s (fuel + 1) listed a w := by
 simp only [Bool.and_eq_true, bne_iff_ne] at hf
 obtain ⟨⟨h1, h2⟩, h5⟩ := hf
 exact wpAnyS_first0 hi (Region.noSelect_spec hs) hQ h5 fuel listed a w (Region.free_spec hi h1) (by simpa using h2) hy hS h
theorem wpAnyS_done {listed : Array Bool} {a : Act} {w : World} (hr : Region.ready md ops listed = []) (h : Q .normal a w) : ∀ fuel, wpAnyS P md ops Q S s fuel listed a w
 | 0 => ⟨hr, h⟩
 | _ + 1 => ⟨fun _ => h, by rw [hr]; simp⟩
/-- One operation that comes up next. -/
theorem wpAnyS_one {i : Nat} {o : Oper} {fuel : Nat} {listed : Array Bool} {a : Act} {w : World} (hr : Region.ready md ops listed = [i]) (ho : ops[i]? = some o) (hg : o.guard = none)
  (h : ∀ K : Act → World → Prop, (∀ a' w', ((listed.setIfInBounds i true).getD s true = true ∨ S w') → wpAnyS P md ops Q S s fuel (listed.setIfInBounds i true) a' w' → K a' w') → Oper.wp P o a w K Q) : wpAnyS P md ops Q S s (fuel + 1) listed a w := by
 refine ⟨fun h0 => (by rw [hr] at h0; cases h0), fun j hj => ?_⟩
 rw [hr] at hj
 simp at hj
 subst hj
 unfold wpOp
 rw [ho]
 simp only
 rw [if_pos (by simp [Region.wanted, hg])]
 exact Or.inl (h _ fun a' w' h1 h2 => ⟨h1, h2⟩)
theorem wpAnyS_two {i j : Nat} {o o' : Oper} {fuel : Nat} {listed : Array Bool} {a : Act} {w : World} (hr : Region.ready md ops listed = [i, j]) (ho : ops[i]? = some o) (hg : o.guard = none) (ho' : ops[j]? = some o') (hg' : o'.guard = none)
  (h : ∀ K : Act → World → Prop, (∀ a' w', ((listed.setIfInBounds i true).getD s true = true ∨ S w') → wpAnyS P md ops Q S s fuel (listed.setIfInBounds i true) a' w' → K a' w') → Oper.wp P o a w K Q)
  (h' : ∀ K : Act → World → Prop, (∀ a' w', ((listed.setIfInBounds j true).getD s true = true ∨ S w') → wpAnyS P md ops Q S s fuel (listed.setIfInBounds j true) a' w' → K a' w') → Oper.wp P o' a w K Q) : wpAnyS P md ops Q S s (fuel + 1) listed a w := by
 refine ⟨fun h0 => (by rw [hr] at h0; cases h0), fun q hq => ?_⟩
 rw [hr] at hq
 simp at hq
 rcases hq with rfl | rfl
 ·unfold wpOp
  rw [ho]
  simp only
  rw [if_pos (by simp [Region.wanted, hg])]
  exact Or.inl (h _ fun a' w' h1 h2 => ⟨h1, h2⟩)
 ·unfold wpOp
  rw [ho']
  simp only
  rw [if_pos (by simp [Region.wanted, hg'])]
  exact Or.inl (h' _ fun a' w' h1 h2 => ⟨h1, h2⟩)
theorem wp_region_S {id : Nat} {a : Act} {w : World} (s : Nat) (S : World → Prop) (hm : P.follows .mixedOrders = true) (h : wpAnyS P .any ops Q S s ops.size (Array.replicate ops.size false) a w.drew) : (Code.region id ops true).wp P Q a w :=
 wp_region_any hm (wpAny_of_S _ _ _ _ h)
end
end Go.Proofs.YtcigjmlileckhaaGreatDoor
