/- Walks of slices.Equal at numbers (told by lists), diagram.Same. Append of one element as one step of a region that draws its order. Over any program. -/
import Derived.Test.YtcigjmlileckhaaGreatDoorM8
import Derived.Test.YtcigjmlileckhaaGreatDoorM0
import Derived.Test.YtcigjmlileckhaaGreatDoorM1
import Derived.Deep.RegionLaw
import Derived.Deep.RegionLawGrows
/- Walks of slices.Equal at numbers (told by lists), diagram.Same. -/
namespace Go.Proofs.YtcigjmlileckhaaGreatDoor
open Go.RowKit
theorem below_dn (w : World) (n : Nat) : Below w.heap.size w (w.drewN n) := ⟨rfl, rfl, rfl, Nat.le_refl _, fun _ _ => rfl⟩
theorem Ints.form {Z : Zone} {w : World} {v : Value} {xs : List Int} (h : Ints Z w v xs) : ∃ A cap, v = .slice A xs.length cap ∧ xs.length ≤ 17592186044416 := by
 obtain ⟨⟨A, cap, rfl, _, _, h3, _⟩, _⟩ := h
 exact ⟨A, cap, rfl, by omega⟩
theorem equalI_any (Z Z' : Zone) (v v' : Value) (xs ys : List Int) (w : World) (hx : Ints Z w v xs) (hy : Ints Z' w v' ys) :
  Calls Tryz.prog 82 #[v, v'] w fun e w' => e = .returned (.bool (decide (xs = ys))) ∧ Below w.heap.size w w' := by
 have hx' := hx
 have hy' := hy
 obtain ⟨⟨A, cap, rfl, h1, h2, h3, -⟩, -⟩ := hx'
 obtain ⟨⟨A', cap', rfl, h1', h2', h3', -⟩, -⟩ := hy'
 by_cases hl : xs.length = ys.length
 ·by_cases hne : xs = []
  ·subst hne
   have hy0 : ys = [] := List.eq_nil_of_length_eq_zero hl.symm
   subst hy0
   refine (Tryz.slices_Equal_int_empty A A' cap 0 cap' w (by omega)).mono ?_
   rintro e w' ⟨rfl, rfl⟩
   exact ⟨by simp, Below.refl _ _⟩
  ·have hyn : ys ≠ [] := by intro e; subst e; simp at hl; exact hne hl
   obtain ⟨b, off, c, e1, -, -, -, hc⟩ := hx.open_ hne
   obtain ⟨b', off', c', e1', -, -, -, hc'⟩ := hy.open_ hyn
   injection e1 with q1 q2 q3
   injection e1' with q1' q2' q3'
   subst q1 q1'
   refine (Tryz.slices_Equal_int b off xs.length cap b' off' ys.length cap' xs ys w (Nat.le_refl _) (Nat.le_refl _) (by omega) (by omega) hc hc').mono ?_
   rintro e w' ⟨rfl, q, rfl⟩
   refine ⟨?_, below_dn w q⟩
   rw [List.take_length, List.take_length]
   congr 2
   by_cases e : xs = ys <;> simp [e]
 ·refine (Tryz.slices_Equal_int_lens A A' xs.length cap ys.length cap' w hl).mono ?_
  rintro e w' ⟨rfl, rfl⟩
  refine ⟨?_, Below.refl _ _⟩
  rw [decide_eq_false (fun e => hl (by rw [e]))]
set_option maxRecDepth 100000 in
set_option maxHeartbeats 4000000 in
theorem same1_any (Z Z' : Zone) (a b : NodeD) (ca cb : List Value) (w : World) (ha : NodeR Z w ca a) (hb : NodeR Z' w cb b) :
  Calls Tryz.prog 81 #[.agg ca.toArray, .agg cb.toArray] w fun e w' => e = .returned (.bool (decide (a = b))) ∧ Below w.heap.size w w' := by
 obtain ⟨ac, ak, rfl, -, hac, hak⟩ := ha
 obtain ⟨bc, bk, rfl, -, hbc, hbk⟩ := hb
 have HC := hid (fun W (hW : Below w.heap.size w W) => equalI_any Z Z' ac bc a.cuts b.cuts W (hac.keep (.of_below hW)) (hbc.keep (.of_below hW)))
 have HK := hid (fun W (hW : Below w.heap.size w W) => equalI_any Z Z' ak bk a.kids b.kids W (hak.keep (.of_below hW)) (hbk.keep (.of_below hW)))
 have hb2 := (below1 w (.cells #[.bool a.leaf, .int .i64 a.fact, ac, ak] 55)).alloc (by simp) (.cells #[.bool b.leaf, .int .i64 b.fact, bc, bk] 55)
 have HB2 := hid hb2
 have HBA := hid ((Blk.new w 55 #[.bool a.leaf, .int .i64 a.fact, ac, ak]).alloc (.cells #[.bool b.leaf, .int .i64 b.fact, bc, bk] 55))
 have HBB := hid (Blk.new' (w.alloc (.cells #[.bool a.leaf, .int .i64 a.fact, ac, ak] 55)) 55 #[.bool b.leaf, .int .i64 b.fact, bc, bk] (n := w.heap.size + 1) (by simp))
 have HE := hid (show decide (a = b) = (decide (a.fact = b.fact) && decide (a.leaf = b.leaf) && decide (a.cuts = b.cuts) && decide (a.kids = b.kids)) from by
  rw [Bool.eq_iff_iff]
  simp only [decide_eq_true_eq, Bool.and_eq_true]
  constructor
  ·rintro rfl; simp
  ·rintro ⟨⟨⟨h1, h2⟩, h3⟩, h4⟩
   exact NodeD.ext' h2 h1 h3 h4)
 clear hac hak hbc hbk hb2
 go_enter Tryz.func81, Tryz.ntmps81
 by_cases hf : a.fact = b.fact
 ·have e1 : (a.fact == b.fact) = true := by simp [hf]
  rw [decide_eq_true hf] at HE
  clear hf
  by_cases hl : a.leaf = b.leaf
  ·have e2 : (a.leaf == b.leaf) = true := by simp [hl]
   rw [decide_eq_true hl] at HE
   clear hl
   go_wp2_with fail
   refine (HC.out _ HB2.out).mono ?_
   rintro e w1 ⟨rfl, hb1⟩
   have hba := HBA.out.below hb1 HBA.out.lt
   have hbb := HBB.out.below hb1 HBB.out.lt
   have a3 : w1.cell? ⟨w.heap.size, 3, none⟩ = some ak := hba.cell 3
   have b3 : w1.cell? ⟨w.heap.size + 1, 3, none⟩ = some bk := hbb.cell 3
   have a3l := hba.lt
   have b3l := hbb.lt
   have hw1 := HB2.out.trans (hb1.mono HB2.out.size)
   have HW1 := hid hw1
   clear hba hbb hb1 hw1 HBA HBB HB2
   by_cases hc : a.cuts = b.cuts
   ·rw [decide_eq_true hc] at HE ⊢
    clear hc
    go_wp2_with fail
    refine (HK.out _ HW1.out).mono ?_
    rintro e w2 ⟨rfl, hb2⟩
    have hw2 := HW1.out.trans (hb2.mono HW1.out.size)
    go_wp2
    go_ret
    rw [HE.out]
    exact ⟨by simp, hw2⟩
   ·rw [decide_eq_false hc] at HE ⊢
    clear hc
    go_wp2
    go_ret
    rw [HE.out]
    exact ⟨by simp, HW1.out⟩
  ·have e2 : (a.leaf == b.leaf) = false := by simp [hl]
   rw [decide_eq_false hl] at HE
   clear hl
   go_wp2
   go_ret
   rw [HE.out]
   exact ⟨by simp, HB2.out⟩
 ·have e1 : (a.fact == b.fact) = false := by simp [hf]
  rw [decide_eq_false hf] at HE
  clear hf
  go_wp2
  go_ret
  rw [HE.out]
  exact ⟨by simp, HB2.out⟩
theorem Tryz.egSame1 : ∀ args w, (callFunc 81 args).run Tryz.prog w = .ok (.enter 81 args) w := enters_of Tryz.func81 (by kernel_rfl) rfl
theorem take_eq_step {α : Type} {l m : List α} {k : Nat} (h1 : k < l.length) (h2 : k < m.length) (h : l.take k = m.take k) (e : l[k] = m[k]) : l.take (k + 1) = m.take (k + 1) := by
 rw [List.take_succ_eq_append_getElem h1, List.take_succ_eq_append_getElem h2, h, e]
set_option maxRecDepth 100000 in
set_option maxHeartbeats 4000000 in
theorem equalFunc_any (Z Z' : Zone) (v v' : Value) (a b : List NodeD) (w : World) (ha : Nodes Z w v a) (hb : Nodes Z' w v' b) :
  Calls Tryz.prog 80 #[v, v', .func (.func 81) #[] #[]] w fun e w' => e = .returned (.bool (decide (a = b))) ∧ Below w.heap.size w w' := by
 have eg := Tryz.egSame1
 obtain ⟨A, cap, rfl, hcap, hlen, hat⟩ := ha.open_
 obtain ⟨A', cap', rfl, hcap', hlen', hat'⟩ := hb.open_
 have HA := hid hat
 have HA' := hid hat'
 clear hat hat' ha hb
 go_enter Tryz.func80, Tryz.ntmps80
 by_cases hl : a.length = b.length
 ·have e1 : ((a.length : Int) != (b.length : Int)) = false := by simp [hl]
  have HL := hid hl
  clear hl
  go_wp2
  go_loopw [17] (fun i wr => ∃ k : Nat, k ≤ a.length ∧ i = .int .i64 k ∧ Below w.heap.size w wr ∧ Hid (a.take k = b.take k)) (fun i _ => a.length - (intOf i).toNat)
  case atStart => exact ⟨0, Nat.zero_le _, rfl, Below.refl _ _, by simp [Hid]⟩
  case round =>
   obtain ⟨k, hk, rfl, hbel, htk⟩ := hrel
   by_cases hlt : k < a.length
   ·have hlt' : k < b.length := by rw [← HL.out]; exact hlt
    obtain ⟨bb, off, vc, vk, rfl, hz, hbb, c0, c1, c2, c3, hf, hc, hkk⟩ := HA.out k hlt
    obtain ⟨bb', off', vc', vk', rfl, hz', hbb', c0', c1', c2', c3', hf', hc', hkk'⟩ := HA'.out k hlt'
    obtain ⟨VC, ccap, rfl, -⟩ := hc.form
    obtain ⟨VK, kcap, rfl, -⟩ := hkk.form
    obtain ⟨VC', ccap', rfl, -⟩ := hc'.form
    obtain ⟨VK', kcap', rfl, -⟩ := hkk'.form
    have hx : ∀ {p : Nat} {o : Nat} {u : Value}, p < w.heap.size → w.cell? ⟨p, o, none⟩ = some u → wr.cell? ⟨p, o, none⟩ = some u := fun {p o u} hp h => (hbel.cell (p := ⟨p, o, none⟩) hp).trans h
    replace c0 := hx hbb c0
    replace c1 := hx hbb c1
    replace c2 := hx hbb c2
    replace c3 := hx hbb c3
    replace c0' := hx hbb' c0'
    replace c1' := hx hbb' c1'
    replace c2' := hx hbb' c2'
    replace c3' := hx hbb' c3'
    have hbr := lt_of_cell c0
    have hbr' := lt_of_cell c0'
    have hbr1 : bb' < wr.heap.size + 1 := by simp at hbr'; omega
    have HS := hid (fun W (hW : Below w.heap.size w W) => same1_any Z Z' a[k] b[k] [.bool a[k].leaf, .int .i64 a[k].fact, .slice VC a[k].cuts.length ccap, .slice VK a[k].kids.length kcap] [.bool b[k].leaf, .int .i64 b[k].fact, .slice VC' b[k].cuts.length ccap', .slice VK' b[k].kids.length kcap'] W (NodeR.keep ⟨_, _, rfl, hf, hc, hkk⟩ (.of_below hW)) (NodeR.keep ⟨_, _, rfl, hf', hc', hkk'⟩ (.of_below hW)))
    have HNX := hid (fun e => take_eq_step hlt hlt' htk.out e)
    have HNE := hid (show a[k] ≠ b[k] → a ≠ b from fun h e => h (by subst e; rfl))
    have hk1 : ((k : Nat) : Int) < (a.length : Int) := by omega
    have hk2 : ((k : Nat) : Int) < (b.length : Int) := by omega
    have hk0 : (0 : Int) ≤ ((k : Nat) : Int) := by omega
    have HBW := hid ((hbel.alloc hbel.size (.cells #[.bool a[k].leaf, .int .i64 a[k].fact, .slice VC a[k].cuts.length ccap, .slice VK a[k].kids.length kcap] 55)).alloc (by have := hbel.size; simp; omega) (.cells #[.bool b[k].leaf, .int .i64 b[k].fact, .slice VC' b[k].cuts.length ccap', .slice VK' b[k].kids.length kcap'] 55))
    clear hx hbel hf hf' hc hc' hkk hkk'
    obtain ⟨⟨x, hxe⟩, ⟨y, hye⟩⟩ : (∃ x, x = a[k]) ∧ (∃ y, y = b[k]) := ⟨⟨_, rfl⟩, ⟨_, rfl⟩⟩
    rw [← hxe] at HS HNX HNE HBW c0 c1 c2 c3
    rw [← hye] at HS HNX HNE HBW c0' c1' c2' c3'
    clear hxe hye
    by_cases hxy : x = y
    ·have HNX2 := hid (HNX.out hxy)
     have HS2 := HS.out
     rw [decide_eq_true hxy] at HS2
     have HS3 := hid HS2
     clear HS HS2 hxy HNX
     go_wp2_with fail
     refine (HS3.out _ HBW.out).mono ?_
     rintro e w1 ⟨rfl, hb1⟩
     have hbw := HBW.out.trans (hb1.mono HBW.out.size)
     go_wp2
     go_roundw
     case rel => exact ⟨k + 1, by omega, by go_num, hbw, HNX2⟩
     case measure => simp [intOf]; omega
    ·have HNE2 := hid (HNE.out hxy)
     have HS2 := HS.out
     rw [decide_eq_false hxy] at HS2
     have HS3 := hid HS2
     clear HS HS2 hxy HNX
     go_wp2_with fail
     refine (HS3.out _ HBW.out).mono ?_
     rintro e w1 ⟨rfl, hb1⟩
     have hbw := HBW.out.trans (hb1.mono HBW.out.size)
     go_wp2
     go_ret
     rw [decide_eq_false HNE2.out]
     exact ⟨rfl, hbw⟩
   ·obtain rfl : k = a.length := by omega
    have HEQ := hid (show a = b from by have h := htk.out; rw [List.take_length] at h; rw [h, HL.out, List.take_length])
    clear htk
    go_wp2
    go_ret
    rw [decide_eq_true HEQ.out]
    exact ⟨rfl, hbel⟩
 ·have e1 : ((a.length : Int) != (b.length : Int)) = true := by simp; omega
  have HN := hid (show a ≠ b from fun e => hl (by rw [e]))
  clear hl
  go_wp2
  go_ret
  rw [decide_eq_false HN.out]
  exact ⟨rfl, Below.refl _ _⟩
set_option maxRecDepth 100000 in
set_option maxHeartbeats 4000000 in
theorem dsame_any (Z Z' : Zone) (v v' : Value) (a b : List NodeD) (w : World) (ha : Nodes Z w v a) (hb : Nodes Z' w v' b) :
  Calls Tryz.prog 31 #[.agg #[v], .agg #[v']] w fun e w' => e = .returned (.bool (decide (a = b))) ∧ Below w.heap.size w w' := by
 have hb2 := (below1 w (.cells #[v] 34)).alloc (by simp) (.cells #[v'] 34)
 have HC := hid (equalFunc_any Z Z' v v' a b _ (ha.keep (.of_below hb2)) (hb.keep (.of_below hb2)))
 have HB2 := hid hb2
 obtain ⟨A, cap, rfl, -⟩ := ha
 obtain ⟨A', cap', rfl, -⟩ := hb
 clear hb2
 go_enter Tryz.func31, Tryz.ntmps31
 go_wp2_with fail
 refine HC.out.mono ?_
 rintro e w1 ⟨rfl, hb1⟩
 have hbw := HB2.out.trans (hb1.mono HB2.out.size)
 go_wp2
 go_ret
 exact ⟨rfl, hbw⟩
end Go.Proofs.YtcigjmlileckhaaGreatDoor
/- Append of one element as one step of a region that draws its order. Over any program. -/
namespace Go.Proofs.YtcigjmlileckhaaGreatDoor
open Go.RowKit
theorem step_append1 {P : Program} {ops : Array Oper} {o : Oper} {a : Act} {w : World} {K : Act → World → Prop} {Q : Exit → Act → World → Prop} {E : Prop}
  (hgd : o.guard = none) (s x : Operand) (t : TypeId) (ho : o.op = .call { callee := .builtin .append, args := #[s, x], argTypes := #[t, t] })
  {base : Nat} {e : TypeId} {size bytes : Nat} (ht : P.underlying t = some (.slice e)) (El : ElemIs P e size bytes) {v : Value} {n : Nat} {xs : List Value} (hs : a.eval s = v) (hown : w.ownsRow base e size v n xs)
  {g m c off : Nat} (hx : a.eval x = .slice (some ⟨g, off, none⟩) m c) {news : List Value} (hn : news.length = m * size) (hc : ∀ j u, news[j]? = some u → w.cell? ⟨g, off + j, none⟩ = some u) (h1 : ∀ u ∈ news, u.oneCell' = true) (h63 : n + m ≤ maxLen) (hb : (n + m) * bytes ≤ 140737488355328) (hbase : base ≤ w.heap.size)
  (hK : ∀ v' w', w'.ownsRow base e size v' (n + m) (xs ++ news) → w.grownBy w' v.ownBlock → (v'.ownBlock = v.ownBlock ∨ v'.ownBlock = some w.heap.size) → K (a.put o.dst v') w') :
  if Region.wanted o (yielded ops a.tmps) = true then Oper.wp P o a w K Q else E := by
 have hw : Region.wanted o (yielded ops a.tmps) = true := by simp [Region.wanted, hgd]
 rw [if_pos hw]
 obtain ⟨v', w', hrun, h2, h3, h4⟩ := run_append1 (ty := o.type) ht El hown hn hc h1 h63 hb hbase
 unfold Oper.wp execOp
 simp only [ho, resolve, invoke, builtin, Sem.run_bind, Sem.run_pure, Result.andThen_ok, List.map_toArray, List.map_cons, List.map_nil, hs, hx]
 rw [hrun]
 exact hK _ _ h2 h3 h4
theorem oper_append1 {P : Program} {o : Oper} {a : Act} {w : World} {K : Act → World → Prop} {Q : Exit → Act → World → Prop}
  (s x : Operand) (t : TypeId) (ho : o.op = .call { callee := .builtin .append, args := #[s, x], argTypes := #[t, t] })
  {base : Nat} {e : TypeId} {size bytes : Nat} (ht : P.underlying t = some (.slice e)) (El : ElemIs P e size bytes) {v : Value} {n : Nat} {xs : List Value} (hs : a.eval s = v) (hown : w.ownsRow base e size v n xs)
  {g m c off : Nat} (hx : a.eval x = .slice (some ⟨g, off, none⟩) m c) {news : List Value} (hn : news.length = m * size) (hc : ∀ j u, news[j]? = some u → w.cell? ⟨g, off + j, none⟩ = some u) (h1 : ∀ u ∈ news, u.oneCell' = true) (h63 : n + m ≤ maxLen) (hb : (n + m) * bytes ≤ 140737488355328) (hbase : base ≤ w.heap.size)
  (hK : ∀ v' w', w'.ownsRow base e size v' (n + m) (xs ++ news) → w.grownBy w' v.ownBlock → (v'.ownBlock = v.ownBlock ∨ v'.ownBlock = some w.heap.size) → K (a.put o.dst v') w') :
  Oper.wp P o a w K Q := by
 obtain ⟨v', w', hrun, h2, h3, h4⟩ := run_append1 (ty := o.type) ht El hown hn hc h1 h63 hb hbase
 unfold Oper.wp execOp
 simp only [ho, resolve, invoke, builtin, Sem.run_bind, Sem.run_pure, Result.andThen_ok, List.map_toArray, List.map_cons, List.map_nil, hs, hx]
 rw [hrun]
 exact hK _ _ h2 h3 h4
/-- Onto a slice without room: a row of the call's own. -/
theorem oper_append_full {P : Program} {o : Oper} {a : Act} {w : World} {K : Act → World → Prop} {Q : Exit → Act → World → Prop}
  (s x : Operand) (t : TypeId) (ho : o.op = .call { callee := .builtin .append, args := #[s, x], argTypes := #[t, t] })
  {e : TypeId} {size bytes : Nat} (ht : P.underlying t = some (.slice e)) (El : ElemIs P e size bytes) {sb soff n cap : Nat} {olds : List Value} (hs : a.eval s = .slice (some ⟨sb, soff, none⟩) n cap)
  (hlo : olds.length = n * size) (holds : ∀ j u, olds[j]? = some u → w.cell? ⟨sb, soff + j, none⟩ = some u)
  {g m c off : Nat} (hx : a.eval x = .slice (some ⟨g, off, none⟩) m c) {news : List Value} (hn : news.length = m * size) (hc : ∀ j u, news[j]? = some u → w.cell? ⟨g, off + j, none⟩ = some u) (hfull : cap < n + m) (h63 : n + m ≤ maxLen) (hb : (n + m) * bytes ≤ 140737488355328)
  (hK : ∀ v' w', w'.ownsRow w.heap.size e size v' (n + m) (olds ++ news) → w.grownBy w' none → K (a.put o.dst v') w') :
  Oper.wp P o a w K Q := by
 obtain ⟨hp, i, z, hi, hz, hsz, hby, hzs⟩ := El
 have hadd : ∀ (B F j : Nat), (⟨B, F, none⟩ : Addr).add j = ⟨B, F + j, none⟩ := fun B F j => by unfold Addr.add; split <;> simp_all
 obtain ⟨v', w', hrun, h2, h3⟩ := run_append_arg_grows (P := P) w t o.type e i z size bytes ht hi hz hsz hby hzs hp ⟨sb, soff, none⟩ n cap olds hlo (fun j u hu => by rw [hadd]; exact holds j u hu) ⟨g, off, none⟩ m c news hn (fun j u hu => by rw [hadd]; exact hc j u hu) hfull h63 hb
 unfold Oper.wp execOp
 simp only [ho, resolve, invoke, builtin, Sem.run_bind, Sem.run_pure, Result.andThen_ok, List.map_toArray, List.map_cons, List.map_nil, hs, hx]
 rw [hrun]
 exact hK _ _ h2 h3
end Go.Proofs.YtcigjmlileckhaaGreatDoor
