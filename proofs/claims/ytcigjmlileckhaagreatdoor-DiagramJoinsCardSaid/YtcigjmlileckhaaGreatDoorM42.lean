/- The walks of diagram.ask and diagram.step. What the closure of diagram.And knows of memory, and what its loop keeps. -/
import Derived.Test.YtcigjmlileckhaaGreatDoorM15
import Derived.Test.YtcigjmlileckhaaGreatDoorM41
import Derived.Test.YtcigjmlileckhaaGreatDoorM10
import Derived.Test.YtcigjmlileckhaaGreatDoorM33
import Derived.Test.YtcigjmlileckhaaGreatDoorM40
/- The walks of diagram.ask and diagram.step. -/
namespace Go.Proofs.YtcigjmlileckhaaGreatDoor
open Go.RowKit
set_option maxRecDepth 100000 in
set_option maxHeartbeats 4000000 in
theorem ask_any (Z Z' : Zone) (n : NodeD) (cs : List Value) (vd : Value) (ds : List FactD) (w : World) (hn : NodeR Z w cs n) (hd : Facts Z' w vd ds) :
  Calls Tryz.prog 70 #[.agg cs.toArray, .agg #[vd]] w fun e w' => e = .returned (.int .i64 (askS ds n)) ∧ Below w.heap.size w w' := by
 obtain ⟨vc, vk, rfl, -, hcu, hki⟩ := hn
 obtain ⟨D, dcap, rfl, -, -, -⟩ := hd.open_
 obtain ⟨K, kcap, rfl, -⟩ := hki.form
 obtain ⟨KU, ucap, rfl, -⟩ := hcu.form
 have HB := hid (below2 w (.cells #[.bool n.leaf, .int .i64 n.fact, .slice KU n.cuts.length ucap, .slice K n.kids.length kcap] 55) (.cells #[.slice D ds.length dcap] 27))
 clear hcu hki hd
 by_cases hk : n.kids = []
 ·have e : askS ds n = ds.length := by unfold askS; rw [if_pos hk]
  have e3 : ((n.kids.length : Int) == 0) = true := by simp [hk]
  rw [e]
  clear e hk
  go_enter Tryz.func70, Tryz.ntmps70
  go_wp2
  go_ret
  exact ⟨rfl, HB.out⟩
 ·have e : askS ds n = n.fact := by unfold askS; rw [if_neg hk]
  have e3 : ((n.kids.length : Int) == 0) = false := by simp [hk]
  rw [e]
  clear e hk
  go_enter Tryz.func70, Tryz.ntmps70
  go_wp2
  go_ret
  exact ⟨rfl, HB.out⟩
set_option maxRecDepth 100000 in
set_option maxHeartbeats 8000000 in
theorem step_any (Z : Zone) (vg : Value) (g : List NodeD) (ds : List FactD) (x i v : Int) (w : World) (hg : Nodes Z w vg g) (hgood : Good ds g) (hx : Rng g x) :
  Calls Tryz.prog 73 #[.agg #[vg], .int .i64 x, .int .i64 i, .int .i64 v] w fun e w' => e = .returned (.int .i64 (stepS g x i v)) ∧ Below w.heap.size w w' := by
 obtain ⟨A, cap, rfl, hcap, hlen, hat⟩ := hg.open_
 obtain ⟨k, rfl⟩ := Int.eq_ofNat_of_zero_le hx.1
 have hi : k < g.length := by have := hx.2; omega
 obtain ⟨b, off, vcu, vki, rfl, hz, hb, c0, c1, c2, c3, hf, hcu, hki⟩ := hat k hi
 have hnat : nAt g (k : Int) = g[k] := nAt_nat hi
 have HI := hid (fun (h : (nAt g k).kids ≠ []) => (hgood.inner hx h).nxL v)
 have HL := hid (fun (h : (nAt g k).kids ≠ []) => (hgood.inner hx h).len)
 have HU := hid (show stepS g k i v = if (nAt g k).kids ≠ [] ∧ (nAt g k).fact = i then (nAt g k).kids.getD (nx (nAt g k).cuts v) 0 else (k : Int) from rfl)
 rw [hnat] at HI HL HU
 obtain ⟨KU, ucap, rfl, -⟩ := hcu.form
 obtain ⟨K, kcap, rfl, hkl⟩ := hki.form
 have hi1 : (k : Int) < (g.length : Int) := by omega
 have HN := hid (fun W (hW : Below w.heap.size w W) => dnext_any Z g[k] [.bool g[k].leaf, .int .i64 g[k].fact, .slice KU g[k].cuts.length ucap, .slice K g[k].kids.length kcap] v W ((show NodeR Z w _ g[k] from ⟨_, _, rfl, hf, hcu, hki⟩).keep (.of_below hW)))
 have HK := hid hki
 generalize g[k] = n at *
 clear hat hcap hnat hgood hx hcu hki hg hf
 have hbx := (Blk.new' (w.alloc (.cells #[.slice (some ⟨b, off, none⟩) g.length cap] 34)) 55 #[.bool n.leaf, .int .i64 n.fact, .slice KU n.cuts.length ucap, .slice K n.kids.length kcap] (n := w.heap.size + 1) (by simp))
 have hb2 := below2 w (.cells #[.slice (some ⟨b, off, none⟩) g.length cap] 34) (.cells #[.bool n.leaf, .int .i64 n.fact, .slice KU n.cuts.length ucap, .slice K n.kids.length kcap] 55)
 have HB := hid (And.intro hbx hb2)
 clear hbx hb2
 by_cases hk : n.kids = []
 ·have e : stepS g k i v = k := by rw [HU.out, if_neg (fun h => h.1 hk)]
  have e3 : decide ((0 : Int) < (n.kids.length : Int)) = false := by simp [hk]
  have e5 : decide (0 < n.kids.length) = false := by simp [hk]
  rw [e]
  clear e hk HU HI HL HN HK
  go_enter Tryz.func73, Tryz.ntmps73
  go_wp2
  go_ret
  exact ⟨rfl, HB.out.2⟩
 ·have hkp : 0 < n.kids.length := List.length_pos_iff.2 hk
  have e3 : decide ((0 : Int) < (n.kids.length : Int)) = true := by simp; omega
  by_cases hfi : n.fact = i
  ·have HU2 := hid (HU.out.trans (if_pos ⟨hk, hfi⟩))
   have HI2 := hid (HI.out hk)
   have HL2 := hid (HL.out hk)
   have e4 : (n.fact == i) = true := by simp [hfi]
   rw [HU2.out]
   clear hk HU HI HL hfi
   have hnx := nx_le n.cuts v
   obtain ⟨q, hq⟩ : ∃ q : Nat, q = nx n.cuts v := ⟨_, rfl⟩
   have hql : q < n.kids.length := by have := HL2.out; omega
   obtain ⟨kb, koff, rfl, -, hkb, hkc⟩ := HK.out.at_ hql
   have HQ := hid (show n.kids[q] = n.kids.getD (nx n.cuts v) 0 from by rw [← hq]; simp [List.getD_eq_getElem?_getD, hql])
   have HNX := hid (show nxL n v = (q : Int) from by rw [HI2.out, hq])
   generalize n.kids[q] = r at *
   have hql1 : (q : Int) < (n.kids.length : Int) := by omega
   have hkcl := lt_of_cell hkc
   have HKC := hid hkc
   rw [← HQ.out]
   clear hq HQ HU2 HI2 HL2 hkc hnx hkp
   go_enter Tryz.func73, Tryz.ntmps73
   go_upto_region 3 with fail
   have HW1 := HB
   generalize (w.alloc (.cells #[.slice (some ⟨b, off, none⟩) g.length cap] 34)).alloc (.cells #[.bool n.leaf, .int .i64 n.fact, .slice KU n.cuts.length ucap, .slice (some ⟨kb, koff, none⟩) n.kids.length kcap] 55) = W1 at *
   have HCELL := hid (fun (W : World) (hW : Below W1.heap.size W1 W) => (show W.cell? ⟨w.heap.size + 1, 0, none⟩ = some (.bool n.leaf) ∧ W.cell? ⟨w.heap.size + 1, 1, none⟩ = some (.int .i64 n.fact) ∧ W.cell? ⟨w.heap.size + 1, 2, none⟩ = some (.slice KU n.cuts.length ucap) ∧ W.cell? ⟨w.heap.size + 1, 3, none⟩ = some (.slice (some ⟨kb, koff, none⟩) n.kids.length kcap) ∧ W.cell? ⟨kb, koff + q, none⟩ = some (.int .i64 r) from by
    have hx := HW1.out.1.below hW HW1.out.1.lt
    have hw := HW1.out.2.trans (hW.mono HW1.out.2.size)
    exact ⟨hx.cell 0, hx.cell 1, hx.cell 2, hx.cell 3, (hw.cell (p := ⟨kb, koff + q, none⟩) hkcl).trans HKC.out⟩))
   clear c0 c1 c2 c3
   refine wp_region_S 7 (fun W => Below W1.heap.size W1 W) (by kernel_rfl) ?_
   have hS : (fun W => Below W1.heap.size W1 W) W1.drew := (Below.refl _ _).drew
   (refine wpAnyS_take0 (i := 0) (v := ?_) rfl (by kernel_rfl) (by kernel_rfl) (fun _ _ _ h => h) (Or.inl ⟨by rfl, ?_⟩) (Or.inr hS) ?_; rotate_left; (intro w hSw; clear hSw; go_simp; (try with_reducible rfl)); ((try simp only [Act.put]); (try simp only [nrA]); (try simp only [nrB]); (try simp only [nrC])))
   (refine wpAnyS_take (i := 1) (v := ?_) rfl (by kernel_rfl) (by kernel_rfl) (fun _ _ _ h => h) (Or.inl ⟨by rfl, ?_⟩) hS ?_; rotate_left; (intro w hSw; have hkw := hSw; obtain ⟨h0, h1, h2, h3, h4⟩ := HCELL.out _ hkw; go_simp; (try with_reducible rfl)); ((try simp only [Act.put]); (try simp only [nrA]); (try simp only [nrB]); (try simp only [nrC])))
   (refine wpAnyS_take (i := 2) (v := ?_) rfl (by kernel_rfl) (by kernel_rfl) (fun _ _ _ h => h) (Or.inl ⟨by rfl, ?_⟩) hS ?_; rotate_left; (intro w hSw; have hkw := hSw; obtain ⟨h0, h1, h2, h3, h4⟩ := HCELL.out _ hkw; go_simp; (try with_reducible rfl)); ((try simp only [Act.put]); (try simp only [nrA]); (try simp only [nrB]); (try simp only [nrC])))
   (refine wpAnyS_take0 (i := 3) (v := ?_) rfl (by kernel_rfl) (by kernel_rfl) (fun _ _ _ h => h) (Or.inl ⟨by rfl, ?_⟩) (Or.inr hS) ?_; rotate_left; (intro w hSw; clear hSw; go_simp; (try with_reducible rfl)); ((try simp only [Act.put]); (try simp only [nrA]); (try simp only [nrB]); (try simp only [nrC])))
   refine wpAnyS_one (i := 4) (by kernel_rfl) rfl rfl (fun K hK => ?_)
   go_wp2_with fail
   refine (HN.out _ (HW1.out.2.trans ((Below.refl _ _).drew.mono HW1.out.2.size))).mono ?_
   rintro e w1 ⟨rfl, hb1⟩
   rw [HNX.out]
   have hS1 : Below W1.heap.size W1 w1 := ((Below.refl W1.heap.size W1).drew).trans hb1
   refine hK _ _ (Or.inr hS1) ?_
   clear hK K hb1 hS
   ((try simp only [Act.put]); (try simp only [nrA]); (try simp only [nrB]); (try simp only [nrC]))
   have hS : (fun W => Below W1.heap.size W1 W) w1 := hS1
   (refine wpAnyS_take0 (i := 5) (v := ?_) rfl (by kernel_rfl) (by kernel_rfl) (fun _ _ _ h => h) (Or.inl ⟨by rfl, ?_⟩) (Or.inr hS) ?_; rotate_left; (intro w hSw; clear hSw; go_simp; (try with_reducible rfl)); ((try simp only [Act.put]); (try simp only [nrA]); (try simp only [nrB]); (try simp only [nrC])))
   (refine wpAnyS_take (i := 6) (v := ?_) rfl (by kernel_rfl) (by kernel_rfl) (fun _ _ _ h => h) (Or.inl ⟨by rfl, ?_⟩) hS ?_; rotate_left; (intro w hSw; have hkw := hSw; obtain ⟨h0, h1, h2, h3, h4⟩ := HCELL.out _ hkw; go_simp; (try with_reducible rfl)); ((try simp only [Act.put]); (try simp only [nrA]); (try simp only [nrB]); (try simp only [nrC])))
   refine wpAnyS_one (i := 7) (by kernel_rfl) rfl rfl (fun K hK => ?_)
   go_wp2_with fail
   refine hK _ _ (Or.inl rfl) ?_
   clear hK K
   ((try simp only [Act.put]); (try simp only [nrA]); (try simp only [nrB]); (try simp only [nrC]))
   refine wpAnyS_done (by kernel_rfl) ?_ _
   have hbw := HW1.out.2.trans (hS1.mono HW1.out.2.size)
   clear hS hS1 HCELL HN HKC
   go_wp2
   go_ret
   exact ⟨rfl, hbw⟩
  ·have e : stepS g k i v = k := by rw [HU.out, if_neg (fun h => hfi h.2)]
   have e4 : (n.fact == i) = false := by simp [hfi]
   rw [e]
   clear e hk HU HI HL HN HK hfi
   go_enter Tryz.func73, Tryz.ntmps73
   go_wp2
   go_ret
   exact ⟨rfl, HB.out.2⟩
end Go.Proofs.YtcigjmlileckhaaGreatDoor
/- What the closure of diagram.And knows of memory, and what its loop keeps. -/
namespace Go.Proofs.YtcigjmlileckhaaGreatDoor
open Go.RowKit
/-- The blocks that the closure knows of. -/
structure AV where
 Dv : Nat
 Av : Nat
 Bv : Nat
 Fv : Nat
 Mv : Nat
 Gv : Nat
 M : Nat
 db : Nat
def AV.var (c : AV) (b : Nat) : Prop := b = c.Dv ∨ b = c.Av ∨ b = c.Bv ∨ b = c.Fv ∨ b = c.Mv ∨ b = c.Gv
def AV.fn (c : AV) : Value := .func (.func 69) #[] #[.pointer (some ⟨c.Dv, 0, none⟩), .pointer (some ⟨c.Av, 0, none⟩), .pointer (some ⟨c.Bv, 0, none⟩), .pointer (some ⟨c.Fv, 0, none⟩), .pointer (some ⟨c.Mv, 0, none⟩), .pointer (some ⟨c.Gv, 0, none⟩)]
abbrev AV.args (c : AV) (x y : Int) : Array Value := #[.int .i64 x, .int .i64 y, .pointer (some ⟨c.Dv, 0, none⟩), .pointer (some ⟨c.Av, 0, none⟩), .pointer (some ⟨c.Bv, 0, none⟩), .pointer (some ⟨c.Fv, 0, none⟩), .pointer (some ⟨c.Mv, 0, none⟩), .pointer (some ⟨c.Gv, 0, none⟩)]
/-- What a call of the closure keeps. -/
def AV.kept (c : AV) (F : Zone) : Zone := fun b => ¬ F b ∧ b ≠ c.db
structure AnW (c : AV) (va vb vd : Value) (w : World) (st : ASt) (F Z : Zone) : Prop where
 dv : One w c.Dv (.map (some c.db))
 av : One w c.Av va
 bv : One w c.Bv vb
 fv : One w c.Fv vd
 mv : One w c.Mv (.pointer (some ⟨c.M, 0, none⟩))
 gv : One w c.Gv c.fn
 mkr : MkS w c.M st.all F Z
 done : MapIs encP w c.db (kvA st.done)
 var : ∀ b, c.var b → c.kept F b
 dF : ¬ F c.db
 dZ : ¬ Z c.db
section anw
variable {c : AV} {va vb vd : Value} {w w' W : World} {st : ASt} {F Z F' Z' : Zone}
theorem AnW.keep (h : AnW c va vb vd w st F Z) (hk : Keeps (fun b => F b ∨ Z b ∨ c.var b ∨ b = c.db) w w') : AnW c va vb vd w' st F Z := by
 have v : ∀ b, c.var b → (fun b => F b ∨ Z b ∨ c.var b ∨ b = c.db) b := fun b hb => Or.inr (Or.inr (Or.inl hb))
 exact ⟨h.dv.keep hk (v _ (Or.inl rfl)), h.av.keep hk (v _ (Or.inr (Or.inl rfl))), h.bv.keep hk (v _ (Or.inr (Or.inr (Or.inl rfl)))), h.fv.keep hk (v _ (Or.inr (Or.inr (Or.inr (Or.inl rfl))))),
  h.mv.keep hk (v _ (Or.inr (Or.inr (Or.inr (Or.inr (Or.inl rfl)))))), h.gv.keep hk (v _ (Or.inr (Or.inr (Or.inr (Or.inr (Or.inr rfl)))))), h.mkr.keep (hk.mono fun b _ hb => hb.imp id Or.inl), h.done.of_block (hk.block c.db h.done.lt (Or.inr (Or.inr (Or.inr rfl)))), h.var, h.dF, h.dZ⟩
theorem AnW.below (h : AnW c va vb vd w st F Z) (hb : Below w.heap.size w w') : AnW c va vb vd w' st F Z := h.keep (.of_below hb)
theorem AnW.lt (h : AnW c va vb vd w st F Z) : (∀ b, c.var b → b < w.heap.size) ∧ c.db < w.heap.size :=
 ⟨fun b hb => by rcases hb with rfl | rfl | rfl | rfl | rfl | rfl; exact h.dv.lt; exact h.av.lt; exact h.bv.lt; exact h.fv.lt; exact h.mv.lt; exact h.gv.lt, h.done.lt⟩
/-- Another table. -/
theorem AnW.made (h : AnW c va vb vd w st F Z) (hb : Below w.heap.size w W) {all : List NodeD} (hm : MkS w' c.M all F' Z') (hF : ∀ b, F' b → F b ∨ W.heap.size ≤ b) (hZ : ∀ b, Z' b → Z b ∨ W.heap.size ≤ b) (hk : Keeps (fun b => ¬ F b) W w') : AnW c va vb vd w' ⟨all, st.done⟩ F' Z' := by
 have h' := h.below hb
 have hl := h.lt
 have hs := hb.size
 have v := fun b hb => (h.var b hb).1
 refine ⟨h'.dv.keep hk (v _ (Or.inl rfl)), h'.av.keep hk (v _ (Or.inr (Or.inl rfl))), h'.bv.keep hk (v _ (Or.inr (Or.inr (Or.inl rfl)))), h'.fv.keep hk (v _ (Or.inr (Or.inr (Or.inr (Or.inl rfl))))),
  h'.mv.keep hk (v _ (Or.inr (Or.inr (Or.inr (Or.inr (Or.inl rfl)))))), h'.gv.keep hk (v _ (Or.inr (Or.inr (Or.inr (Or.inr (Or.inr rfl)))))), hm,
  h'.done.of_block (hk.block c.db h'.done.lt h.dF), fun b hb => ⟨fun hf => ?_, (h.var b hb).2⟩, fun hf => ?_, fun hf => ?_⟩
 ·rcases hF b hf with hf | hf
  ·exact (h.var b hb).1 hf
  ·have := hl.1 b hb; omega
 ·rcases hF _ hf with hf | hf
  ·exact h.dF hf
  ·omega
 ·rcases hZ _ hf with hf | hf
  ·exact h.dZ hf
  ·omega
theorem AnW.setDone (h : AnW c va vb vd w st F Z) {d : List ((Int × Int) × Int)} (hm : MapIs encP w' c.db (kvA d)) (hk : Keeps (fun b => b ≠ c.db) w w') : AnW c va vb vd w' ⟨st.all, d⟩ F Z := by
 have v := fun b hb => (h.var b hb).2
 exact ⟨h.dv.keep hk (v _ (Or.inl rfl)), h.av.keep hk (v _ (Or.inr (Or.inl rfl))), h.bv.keep hk (v _ (Or.inr (Or.inr (Or.inl rfl)))), h.fv.keep hk (v _ (Or.inr (Or.inr (Or.inr (Or.inl rfl))))),
  h.mv.keep hk (v _ (Or.inr (Or.inr (Or.inr (Or.inr (Or.inl rfl)))))), h.gv.keep hk (v _ (Or.inr (Or.inr (Or.inr (Or.inr (Or.inr rfl)))))), h.mkr.keep (hk.mono fun b _ hb e => by subst e; rcases hb with hb | hb; exact h.dF hb; exact h.dZ hb), hm, h.var, h.dF, h.dZ⟩
end anw
/-- What a call of the closure leaves. -/
def AnPost (c : AV) (va vb vd : Value) (w : World) (F Z : Zone) (r : Int × ASt) (e : Ending) (w' : World) : Prop :=
 e = .returned (.int .i64 r.1) ∧ (∃ F' Z', AnW c va vb vd w' r.2 F' Z' ∧ (∀ b, F' b → F b ∨ w.heap.size ≤ b) ∧ (∀ b, Z' b → Z b ∨ w.heap.size ≤ b)) ∧ Keeps (c.kept F) w w'
/-- What is asked ahead of a call. -/
structure AnIn (c : AV) (va vb vd : Value) (a b : List NodeD) (ds : List FactD) (Zn : Zone) (B0 : Nat) (w : World) (st : ASt) (F Z : Zone) : Prop where
 mem : AnW c va vb vd w st F Z
 na : Nodes Zn w va a
 nb : Nodes Zn w vb b
 fs : Facts Zn w vd ds
 off : ∀ x, Zn x → c.kept F x ∧ x < w.heap.size
 tab : TabB B0 w
 base : B0 ≤ w.heap.size ∧ (∀ x, F x → B0 ≤ x) ∧ B0 ≤ c.db
 wst : WStA st
 len : inn st.all ≤ 4000 + ds.length
 ga : IsValid ds a
 gb : IsValid ds b
section anin
variable {c : AV} {va vb vd : Value} {a b : List NodeD} {ds : List FactD} {Zn : Zone} {B0 : Nat} {w w' W : World} {st : ASt} {F Z : Zone}
theorem AnIn.all_len (h : AnIn c va vb vd a b ds Zn B0 w st F Z) : st.all.length ≤ 4062 := by
 have h1 := h.wst.tab.len
 have h2 := h.len
 have h3 := validDom_len h.ga.dom
 omega
theorem AnIn.belowB (h : AnIn c va vb vd a b ds Zn B0 w st F Z) {W : World} (hk : Keeps (c.kept F) w W) : Below B0 w W :=
 ⟨hk.os, hk.tape, hk.output, hk.size, fun b hb => hk.block b (by have := h.base.1; omega) ⟨fun hf => by have := h.base.2.1 b hf; omega, by have := h.base.2.2; omega⟩⟩
theorem AnIn.tabAt (h : AnIn c va vb vd a b ds Zn B0 w st F Z) {W : World} (hk : Keeps (c.kept F) w W) : TabB W.heap.size W :=
 (h.tab.on (h.belowB hk)).mono (by have := h.base.1; have := hk.size; omega)
theorem AnIn.node (h : AnIn c va vb vd a b ds Zn B0 w st F Z) (l : Bool) {W : World} (hW : Below w.heap.size w W) :
  Calls Tryz.prog 40 #[.pointer (some ⟨c.M, 0, none⟩), .agg #[.bool l, .int .i64 0, .slice none 0 0, .slice none 0 0]] W (MkPost W c.M F (fun b => Z b ∨ False) (nodeS st.all ⟨l, 0, [], []⟩)) :=
 node_any c.M st.all F Z (fun _ => False) ⟨l, 0, [], []⟩ [.bool l, .int .i64 0, .slice none 0 0, .slice none 0 0] W (h.mem.mkr.below hW) (leaf_ok W F l) (by have := h.all_len; omega) (h.tabAt (.of_below hW))
theorem an_leaf {W : World} {l : Bool} {e : Ending} (h : AnW c va vb vd w st F Z) (hb : Below w.heap.size w W) (hp : MkPost W c.M F (fun b => Z b ∨ False) (nodeS st.all ⟨l, 0, [], []⟩) e w') :
  AnPost c va vb vd w F Z ((nodeS st.all ⟨l, 0, [], []⟩).1, ⟨(nodeS st.all ⟨l, 0, [], []⟩).2, st.done⟩) e w' := by
 obtain ⟨he, ⟨F', h1, h2⟩, h3⟩ := hp
 have hs := hb.size
 refine ⟨he, ⟨F', _, h.made hb h1 h2 (fun b hb => hb.imp id fun h => h.elim) h3, fun b hb => (h2 b hb).imp id fun h => by omega, fun b hb => hb.imp id fun h => h.elim⟩, (Keeps.of_below hb).trans (h3.mono fun b _ hb => hb.1)⟩
theorem Tryz.keyP : KeyOk Tryz.prog 109 encP := by
 obtain ⟨i, hi⟩ := info_of_underlying Tryz.underlying3
 exact keyOk_pair Tryz.underlying109 Tryz.underlying3 hi (by kernel_rfl) (fun w em x => by unfold encP; kernel_rfl)
/-- The table of pairs, looked up. -/
theorem Tryz.lookP {w : World} {b : Nat} {d : List ((Int × Int) × Int)} (h : MapIs encP w b (kvA d)) (x y : Int) :
  (Instr.lookup 107 (.map (some b)) (.agg #[.int .i64 x, .int .i64 y]) true).run Tryz.prog w = .ok (.tuple #[(match kvI d (x, y) with | some v => .int .i64 v | none => .int .i64 0), .bool (kvI d (x, y)).isSome]) w := by
 have h1 := h.look Tryz.keyP (t := 107) (e := 3) Tryz.underlying107 (Tryz.zeroInt w) (x, y) true
 rw [kvA_get, if_pos rfl] at h1
 refine Eq.trans h1 ?_
 cases kvI d (x, y) <;> rfl
end anin
/-- The loop's round: the kids that are made. -/
structure AnL (c : AV) (va vb vd : Value) (w6 wr : World) (F Z : Zone) (st' : ASt) (kids : List Int) (vk : Value) (F' Z' : Zone) : Prop where
 own : wr.ownsRow w6.heap.size 3 1 vk kids.length (kids.map (.int .i64))
 row : ∀ b, vk.ownBlock = some b → c.kept F' b ∧ ¬ Z' b ∧ ¬ c.var b
 mem : AnW c va vb vd wr st' F' Z'
 hF : ∀ b, F' b → F b ∨ w6.heap.size ≤ b
 hZ : ∀ b, Z' b → Z b ∨ w6.heap.size ≤ b
 kept : Keeps (c.kept F) w6 wr
theorem AnL.start {c : AV} {va vb vd : Value} {w6 : World} {F Z : Zone} {st : ASt} (h : AnW c va vb vd w6 st F Z) : AnL c va vb vd w6 w6 F Z st [] (.slice none 0 0) F Z :=
 ⟨World.ownsRow_nil _ _ _ _, fun b hb => (by cases hb), h, fun b hb => Or.inl hb, fun b hb => Or.inl hb, Keeps.refl _ _⟩
theorem keptA_step {c : AV} {F F' : Zone} {n m : Nat} (h : ∀ b, F' b → F b ∨ n ≤ b) {b : Nat} (hb : c.kept F b) (hlt : b < m) (hm : m ≤ n) : c.kept F' b :=
 ⟨fun hf => by
  rcases h b hf with hf | hf
  ·exact hb.1 hf
  ·omega, hb.2⟩
theorem AnL.step {c : AV} {va vb vd : Value} {w6 wr w7 w8 w10 : World} {F Z F' Z' : Zone} {st' : ASt} {kids : List Int} {vk v5 : Value} {r : Int × ASt} {e : Ending} {o : Obj} (h : AnL c va vb vd w6 wr F Z st' kids vk F' Z') (hb7 : Below wr.heap.size wr w7)
  (hp : AnPost c va vb vd w7 F' Z' r e w8) (hg : (w8.alloc o).grownBy w10 vk.ownBlock) (ho : w10.ownsRow w6.heap.size 3 1 v5 (kids.length + 1) (kids.map (.int .i64) ++ [.int .i64 r.1])) (hat : v5.ownBlock = vk.ownBlock ∨ v5.ownBlock = some (w8.alloc o).heap.size) :
  ∃ F'' Z'', AnL c va vb vd w6 w10 F Z r.2 (kids ++ [r.1]) v5 F'' Z'' := by
 obtain ⟨-, ⟨F'', Z'', hm, hF'', hZ''⟩, hk8⟩ := hp
 have hs7 := hb7.size
 have hs8 := hk8.size
 have hlt := hm.lt
 have hvk : ∀ b, vk.ownBlock = some b → b < wr.heap.size := fun b hb => (h.own.lt b hb).2
 have hnF : ∀ b, vk.ownBlock = some b → c.kept F'' b ∧ ¬ Z'' b ∧ ¬ c.var b := fun b hb => by
  have h1 := h.row b hb
  have h2 := hvk b hb
  refine ⟨keptA_step hF'' h1.1 h2 hs7, fun hz => ?_, h1.2.2⟩
  rcases hZ'' b hz with hz | hz
  ·exact h1.2.1 hz
  ·omega
 have hmk := hm.mkr
 have hk10 : Keeps (fun b => vk.ownBlock ≠ some b) w8 w10 := ((Keeps.refl _ _).alloc o).grown hg (fun k hk _ hz => hz hk)
 refine ⟨F'', Z'', by simpa using ho, fun b hb => ?_, hm.keep (hk10.mono fun b hlt' hb e => ?_), fun b hb => ?_, fun b hb => ?_, ?_⟩
 ·rcases hat with e | e
  ·rw [e] at hb; exact hnF b hb
  ·rw [e] at hb
   injection hb with hb
   subst hb
   have hsz : (w8.alloc o).heap.size = w8.heap.size + 1 := by simp
   rw [hsz]
   refine ⟨⟨fun hf => ?_, ?_⟩, fun hz => ?_, fun hv => ?_⟩
   ·have := hmk.liveF _ hf; omega
   ·have := hlt.2; omega
   ·have := hmk.liveZ _ hz; omega
   ·have := hlt.1 _ hv; omega
 ·have hn := hnF b e
  rcases hb with hb | hb | hb | hb
  ·exact hn.1.1 hb
  ·exact hn.2.1 hb
  ·exact hn.2.2 hb
  ·exact hn.1.2 hb
 ·rcases hF'' b hb with hb | hb
  ·exact h.hF b hb
  ·have := h.kept.size; exact Or.inr (by omega)
 ·rcases hZ'' b hb with hb | hb
  ·exact h.hZ b hb
  ·have := h.kept.size; exact Or.inr (by omega)
 ·have hs6 := h.kept.size
  have hs10 := hk10.size
  refine ⟨hk10.os.trans (hk8.os.trans (hb7.os.trans h.kept.os)), hk10.tape.trans (hk8.tape.trans (hb7.tape.trans h.kept.tape)), hk10.output.trans (hk8.output.trans (hb7.output.trans h.kept.output)), by omega, fun k hk hz => ?_⟩
  rw [hk10.block k (by omega) (fun e => by have := (h.own.lt k e).1; omega), hk8.block k (by omega) (keptA_step h.hF hz hk (Nat.le_refl _)), hb7.block k (by omega), h.kept.block k hk hz]
end Go.Proofs.YtcigjmlileckhaaGreatDoor
