/- Walk of the closure of diagram.maker.from: the visit of the nodes. -/
import Derived.Test.YtcigjmlileckhaaGreatDoorM11
import Derived.Test.YtcigjmlileckhaaGreatDoorM2
import Derived.Laws.EntriesVeiled
import Derived.Shelf.Abstract
/- Walk of the closure of diagram.maker.from: the visit of the nodes. -/
namespace Go.Proofs.YtcigjmlileckhaaGreatDoor
open Go.RowKit
theorem Tryz.egFrom1 : ∀ args w, (callFunc 96 args).run Tryz.prog w = .ok (.enter 96 args) w := enters_of Tryz.func96 (by kernel_rfl) rfl
theorem Tryz.lookII {w : World} {b : Nat} {kv : List (Int × Value)} (h : MapIs encI w b kv) (s : Int) (c : Bool) :
  (Instr.lookup 134 (.map (some b)) (.int .i64 s) c).run Tryz.prog w = .ok (if c then .tuple #[(kvGet kv s).getD (.int .i64 0), .bool (kvGet kv s).isSome] else (kvGet kv s).getD (.int .i64 0)) w :=
 h.look (keyOk_int (P := Tryz.prog) (k := 3) Tryz.underlying3) (t := 134) (e := 3) Tryz.underlying134 (Tryz.zeroInt w) s c
/-- Node i of a maker. -/
theorem MkS.node_at {w : World} {M : Nat} {all : List NodeD} {F Z : Nat → Prop} (h : MkS w M all F Z) {i : Nat} (hi : i < all.length) :
  ∃ g cap vc vk, w.cell? ⟨M, 0, none⟩ = some (.slice (some ⟨g, 0, none⟩) all.length cap) ∧ F g ∧ w.cell? ⟨g, i * 4, none⟩ = some (.bool all[i].leaf) ∧ w.cell? ⟨g, i * 4 + 1, none⟩ = some (.int .i64 all[i].fact) ∧
   w.cell? ⟨g, i * 4 + 2, none⟩ = some vc ∧ w.cell? ⟨g, i * 4 + 3, none⟩ = some vk ∧ I64 all[i].fact ∧ Ints Z w vc all[i].cuts ∧ Ints Z w vk all[i].kids := by
 obtain ⟨⟨v, mp, csl, h1, h2, h3, _, h5⟩, _⟩ := h
 obtain ⟨n, hn⟩ : ∃ n, all.length = n + 1 := ⟨all.length - 1, by omega⟩
 have h2' := h2
 rw [hn] at h2'
 obtain ⟨g, cap, rfl⟩ := own_form h2'
 obtain ⟨cs, ⟨vc, vk, rfl, hf, hc, hk⟩, hcs⟩ := h3.at_ i hi
 have hce : ∀ j u, ([.bool all[i].leaf, .int .i64 all[i].fact, vc, vk] : List Value)[j]? = some u → w.cell? ⟨g, i * 4 + j, none⟩ = some u := fun j u hu => by
  have := h2.cells (g := g) rfl (i * 4 + j) u (hcs j u hu)
  rwa [show (⟨g, 0, none⟩ : Addr).add (i * 4 + j) = ⟨g, i * 4 + j, none⟩ from by unfold Addr.add; split <;> simp_all] at this
 exact ⟨g, cap, vc, vk, by rw [hn]; exact h1.cell 0, (h5 g rfl).1, hce 0 _ rfl, hce 1 _ rfl, hce 2 _ rfl, hce 3 _ rfl, hf, hc, hk⟩
def kvO : List Int → Nat → List (Int × Value)
 | [], _ => []
 | n :: r, i => (n, .int .i64 (i : Nat)) :: kvO r (i + 1)
theorem kvO_get : ∀ (o : List Int) (i : Nat) (n : Int), kvGet (kvO o i) n = if n ∈ o then some (.int .i64 ((i + o.idxOf n : Nat) : Int)) else none
 | [], _, _ => by simp [kvO, kvGet]
 | m :: r, i, n => by
  unfold kvO kvGet
  by_cases h : n = m
  ·subst h; rw [if_pos rfl, if_pos (by simp)]; simp
  ·rw [if_neg h, kvO_get r (i + 1) n]
   simp only [List.mem_cons, h, false_or]
   split
   ·rw [List.idxOf_cons]
    have : (m == n) = false := by simp; exact fun e => h e.symm
    rw [this]; simp; omega
   ·rfl
theorem kvO_set : ∀ (o : List Int) (i : Nat) (n : Int), n ∉ o → kvSet (kvO o i) n (.int .i64 ((i + o.length : Nat) : Int)) = kvO (o ++ [n]) i
 | [], _, _, _ => by simp [kvO, kvSet]
 | m :: r, i, n, h => by
  simp only [List.mem_cons, not_or] at h
  have ih := kvO_set r (i + 1) n h.2
  simp only [kvO, kvSet, List.cons_append, List.length_cons]
  rw [if_neg h.1, ← ih, show i + (r.length + 1) = i + 1 + r.length by omega]
/-- What the visits find and leave alone: the variables and the maker. -/
structure VisC (w : World) (P O Mv V pb M B : Nat) (all : List NodeD) (F Z : Nat → Prop) : Prop where
 p : One w P (.map (some pb))
 m : One w Mv (.pointer (some ⟨M, 0, none⟩))
 v : One w V (.func (.func 96) #[] #[.pointer (some ⟨P, 0, none⟩), .pointer (some ⟨O, 0, none⟩), .pointer (some ⟨Mv, 0, none⟩), .pointer (some ⟨V, 0, none⟩)])
 maker : MkS w M all F Z
 off : ∀ b, (F b ∨ Z b ∨ b = P ∨ b = Mv ∨ b = V) → b < B ∧ b ≠ pb ∧ b ≠ O
 o : O < B ∧ O ≠ pb
 size : B ≤ w.heap.size
/-- What they write: the order and the places. -/
def VisO (w : World) (O pb B : Nat) (order : List Int) : Prop :=
 ∃ vo, One w O vo ∧ w.ownsRow B 3 1 vo order.length (order.map (.int .i64)) ∧ MapIs encI w pb (kvO order 0)
def visZ (O pb B : Nat) : Zone := fun b => b < B ∧ b ≠ pb ∧ b ≠ O
theorem VisC.keep {w w' : World} {P O Mv V pb M B : Nat} {all : List NodeD} {F Z : Nat → Prop} (h : VisC w P O Mv V pb M B all F Z) (hk : Keeps (visZ O pb B) w w') : VisC w' P O Mv V pb M B all F Z := by
 obtain ⟨h1, h2, h3, h4, h5, h6, h7⟩ := h
 exact ⟨h1.keep hk (h5 _ (Or.inr (Or.inr (Or.inl rfl)))), h2.keep hk (h5 _ (Or.inr (Or.inr (Or.inr (Or.inl rfl))))), h3.keep hk (h5 _ (Or.inr (Or.inr (Or.inr (Or.inr rfl))))), h4.keep (hk.mono fun b _ hb => h5 b (by rcases hb with h | h; exact Or.inl h; exact Or.inr (Or.inl h))), h5, h6, Nat.le_trans h7 hk.size⟩
theorem vis_kept {w w1 w5 : World} {P O Mv V pb M B : Nat} {all : List NodeD} {F Z : Nat → Prop} {v : Value} {n : Nat} {xs : List Value} {o : Obj} (_hC : VisC w P O Mv V pb M B all F Z) (hk1 : Keeps (fun c => c ≠ pb) w w1)
  (ho : w1.ownsRow B 3 1 v n xs) (hg : (w1.alloc o).grownBy w5 v.ownBlock) : ∀ u, Keeps (visZ O pb B) w (w5.setCell ⟨O, 0, none⟩ u) := fun u =>
 (((hk1.mono fun b _ hb => hb.2.1).trans ((Keeps.refl _ _).alloc o)).grown hg (fun k hk _ hz => by have := (ho.lt k hk).1; have := hz.1; omega)).setCell (fun _ hz => hz.2.2 rfl) u
theorem vis_snoc {w w1 w5 : World} {P O Mv V pb M B : Nat} {all : List NodeD} {F Z : Nat → Prop} {v v5 v0 : Value} {order : List Int} {i : Int} {o : Obj} (hC : VisC w P O Mv V pb M B all F Z) (_hk1 : Keeps (fun c => c ≠ pb) w w1)
  (hm1 : MapIs encI w1 pb (kvSet (kvO order 0) i (.int .i64 ((order.length : Nat) : Int)))) (ho : w1.ownsRow B 3 1 v order.length (order.map (.int .i64))) (hO5 : One w5 O v0) (hg : (w1.alloc o).grownBy w5 v.ownBlock)
  (hown : w5.ownsRow B 3 1 v5 (order.length + 1) (order.map (.int .i64) ++ [.int .i64 i])) (hs : kvSet (kvO order 0) i (.int .i64 ((order.length : Nat) : Int)) = kvO (order ++ [i]) 0) : VisO (w5.setCell ⟨O, 0, none⟩ v5) O pb B (order ++ [i]) := by
 have hpl : pb < (w1.alloc o).heap.size := by have := hm1.lt; simp; omega
 refine ⟨v5, hO5.set_ v5, ?_, ?_⟩
 ·have := own_keep (Z := fun c => c ≠ O) hown ((Keeps.refl _ _).setCell (p := ⟨O, 0, none⟩) (fun _ h => h rfl) v5) (fun k hk e => by have := (hown.lt k hk).1; have := hC.o.1; omega)
  simpa using this
 ·rw [← hs]
  refine ((hm1.of_block (Below.heap_alloc _ _ _ hm1.lt)).of_block (hg.block pb hpl (fun e => own_ne_map ho hm1 e.symm))).of_block (Below.heap_setCell _ _ _ _ (fun e => hC.o.2 e.symm))
set_option maxRecDepth 100000 in
set_option maxHeartbeats 4000000 in
theorem visit_any (ds : List FactD) (all : List NodeD) (hg : Good ds all) (hall : all.length ≤ 1000000) (P O Mv V pb M B : Nat) (F Z : Nat → Prop) : ∀ (k : Nat) (i : Int) (order : List Int) (w : World), Rng all i → rank ds all i < k → (∀ x ∈ order, Rng all x) → order.Nodup →
  VisC w P O Mv V pb M B all F Z → VisO w O pb B order →
  Calls Tryz.prog 96 #[.int .i64 i, .pointer (some ⟨P, 0, none⟩), .pointer (some ⟨O, 0, none⟩), .pointer (some ⟨Mv, 0, none⟩), .pointer (some ⟨V, 0, none⟩)] w fun e w' =>
   e = .returned (.tuple #[]) ∧ VisO w' O pb B (visitS all k i order) ∧ Keeps (visZ O pb B) w w' := by
 intro k
 induction k with
 | zero => intro i order w _ h; omega
 | succ k ih =>
 intro i order w hi hr ho hn hC hO
 have eg := Tryz.egFrom1
 have IH := hid ih
 clear ih
 obtain ⟨vo, hov, hown, hmap⟩ := hO
 have p1 := hC.p.cell
 have p2 := hC.p.lt
 have o1 := hov.cell
 have o2 := hov.lt
 have hl := Tryz.lookII hmap i true
 rw [kvO_get] at hl
 by_cases hm : i ∈ order
 ·rw [if_pos hm] at hl
  simp only [Option.getD_some, Option.isSome_some, if_true] at hl
  have HV := hid (show visitS all (k + 1) i order = order from by unfold visitS; rw [if_pos hm])
  have HO := hid (show VisO w O pb B order from ⟨vo, hov, hown, hmap⟩)
  clear hm hC hov hown hmap ho hn hg
  go_enter Tryz.func96, Tryz.ntmps96
  go_wp2
  exact bodyPost_ret (v := .tuple #[]) (by simp [results, Tryz.results96, go_sem]) rfl ⟨rfl, by rw [HV.out]; exact HO.out, .refl _ _⟩
 ·rw [if_neg hm] at hl
  simp only [Option.getD_none, Option.isSome_none, if_true] at hl
  have hset := kvO_set order 0 i hm
  rw [Nat.zero_add] at hset
  have HSET := hid hset
  have HV := hid (show visitS all (k + 1) i order = (nAt all i).kids.foldl (fun o x => visitS all k x o) (order ++ [i]) from by rw [visitS, if_neg hm])
  have hol : order.length ≤ 1000000 := Nat.le_trans (nodup_length_le _ _ hn ho) hall
  obtain ⟨A, cap, rfl, -, -, -⟩ := Row.of_own hown (by decide)
  have HC := hid hC
  have HOV := hid (And.intro hov (And.intro hown hmap))
  have HORD := hid (And.intro ho (And.intro hn hm))
  clear hC hov hown hmap ho hn hm hset
  go_enter Tryz.func96, Tryz.ntmps96
  go_upto_region 4 with (first
   | (at_mapUpdate; refine wpList_mapStore rfl (.tmp 17) (.tmp 18) _ rfl (keyOk_int (P := Tryz.prog) (k := 3) Tryz.underlying3) (e := 3) Tryz.underlying134 rfl (HOV.out.2.2) i rfl ?_; intro w1 hm1 hk1 hsz1 hce1 hfr1; have hob := (HOV.out.1.keep hk1 HC.out.o.2); have hne := own_ne_map HOV.out.2.1 HOV.out.2.2; have hown1 := own_keep HOV.out.2.1 hk1 (fun k hk e => hne (e ▸ hk)); have o1' := hob.cell; have o2' := hob.lt; have o3' := hob.free; have HK1 := hid (And.intro hm1 (And.intro hk1 (And.intro hsz1 hob))); have HOW1 := hid hown1; clear hm1 hk1 hsz1 hce1 hfr1 hob hne hown1 o1 o2 hl)
   | (at_builtin; refine wpList_append1 rfl (.tmp 21) (.tmp 23) _ rfl Tryz.underlying28 Tryz.eInt rfl (HOW1.out.alloc _) rfl (news := [.int .i64 i]) rfl (one_cell (by simp)) (by simp [Value.oneCell']) (by unfold maxLen; omega) (by omega) (by have := HC.out.size; have := HK1.out.2.1.size; simp; omega) ?_; intro v5 w5 hown5 hg5 hat5; obtain ⟨g5, cap5, hv5⟩ := own_form hown5; subst hv5; have hO5 := (HK1.out.2.2.2.alloc (.cells #[.int .i64 i] 3)).of_block (hg5.block O (by simp; omega) (fun e => by have := (HOW1.out.lt O e.symm).1; have := HC.out.o.1; omega)); have d0 := hO5.cell; have d1 := hO5.free; have d2 := hO5.lt; have HX := hid (vis_snoc HC.out HK1.out.2.1 HK1.out.1 HOW1.out hO5 hg5 hown5 HSET.out); have HCX := hid (vis_kept HC.out HK1.out.2.1 HOW1.out hg5); clear hown5 hg5 hat5 hO5 o1' o2' o3'))
  have hkw := HCX.out (.slice (some ⟨g5, 0, none⟩) (order.length + 1) cap5)
  have HKW := hid hkw
  have hx := HX.out
  clear hkw HX HCX d0 d1 d2 HK1 HOW1
  generalize (w5.setCell ⟨O, 0, none⟩ (.slice (some ⟨g5, 0, none⟩) (order.length + 1) cap5)) = W at *
  have hC := HC.out.keep HKW.out
  obtain ⟨n, rfl⟩ := Int.eq_ofNat_of_zero_le hi.1
  have hin : n < all.length := by have := hi.2; omega
  have e1 := hC.m.cell
  have e1l := hC.m.lt
  obtain ⟨g, gcap, vc, vk, e2, hgF, e3, e4, e5, e6, hf, hic, hik⟩ := hC.maker.node_at hin
  have e2l := lt_of_cell e2
  have e6l := lt_of_cell e6
  have hni : (n : Int) < (all.length : Nat) := by omega
  have hn0 : (0 : Int) ≤ (n : Int) := by omega
  have hnat := nAt_nat hin
  have hrk := fun x hx => hg.rank_kid hi (k := x) hx
  rw [hnat] at hrk HV
  have HIK := hid hik
  have HRK := hid hrk
  have HC5 := hid hC
  have HX5 := hid hx
  obtain ⟨⟨KA, kcap, rfl, -, -, hk3, -⟩, -⟩ := hik
  have HG := hid hg
  clear hC hic hx hnat hrk hgF hf hg
  generalize all[n].kids = kids at *
  go_wp2
  go_loopw [35] (fun ix wr => ∃ j : Nat, j ≤ kids.length ∧ ix = .int .i64 j ∧ VisO wr O pb B ((kids.take j).foldl (fun o x => visitS all k x o) (order ++ [(n : Int)])) ∧ Keeps (visZ O pb B) w wr ∧ Hid ((∀ x ∈ (kids.take j).foldl (fun o x => visitS all k x o) (order ++ [(n : Int)]), Rng all x) ∧ ((kids.take j).foldl (fun o x => visitS all k x o) (order ++ [(n : Int)])).Nodup)) (fun ix _ => kids.length - (intOf ix).toNat)
  case atStart =>
   refine ⟨0, Nat.zero_le _, rfl, HX5.out, HKW.out, fun x hx => ?_, ?_⟩
   ·rcases List.mem_append.1 hx with h | h
    ·exact HORD.out.1 x h
    ·simp at h; subst h; exact ⟨hn0, hni⟩
   ·show (order ++ [(n : Int)]).Nodup
    rw [List.nodup_append]
    exact ⟨HORD.out.2.1, by simp, fun a ha b hb e => by simp at hb; subst hb; exact HORD.out.2.2 (e ▸ ha)⟩
  case round =>
   obtain ⟨j, hj, rfl, hO, hkp, hord⟩ := hrel
   clear e1 e1l e2 e3 e4 e5 e6 e2l e6l
   by_cases hjl : j < kids.length
   ·obtain ⟨b, off, rfl, hz, hbl, hc⟩ := HIK.out.at_ hjl
    have hCr := HC.out.keep hkp
    have hzb := HC.out.off b (Or.inr (Or.inl hz))
    have hc' : wr.cell? ⟨b, off + j, none⟩ = some (.int .i64 kids[j]) := by
     have hlt0 := HC.out.maker.liveZ b hz
     have hb1 := hkp.block b hlt0 hzb
     have hb2 := HKW.out.block b hlt0 hzb
     rw [World.cell?_of_block (w := W) (a := ⟨b, off + j, none⟩) (hb1.trans hb2.symm)]
     exact hc
    have v1 := hCr.v.cell
    have v2 := hCr.v.lt
    have hbl2 := lt_of_cell hc'
    have hrj := HRK.out kids[j] (List.getElem_mem hjl)
    have HI := hid (IH.out kids[j] _ wr hrj.1 (by omega) hord.out.1 hord.out.2 hCr hO)
    have hts : (kids.take (j + 1)).foldl (fun o x => visitS all k x o) (order ++ [(n : Int)]) = visitS all k kids[j] ((kids.take j).foldl (fun o x => visitS all k x o) (order ++ [(n : Int)])) := by
     rw [List.take_succ_eq_append_getElem hjl, List.foldl_append]; rfl
    have HVS := hid (visit_spec HG.out k kids[j] _ hrj.1 (by omega) hord.out.1 hord.out.2)
    have HTS := hid hts
    have HKP := hid hkp
    clear hts hrj hO hkp hord hCr hc
    generalize (kids.take j).foldl (fun o x => visitS all k x o) (order ++ [(n : Int)]) = od at *
    generalize kids[j] = x at *
    go_wp2_with fail
    refine HI.out.mono ?_
    rintro e w9 ⟨rfl, hO9, hk9⟩
    have H9 := hid (And.intro hO9 (HKP.out.trans hk9))
    clear hO9 hk9 HI v1 v2 hc'
    go_wp2
    go_roundw
    case rel =>
     refine ⟨j + 1, by omega, by go_num, ?_, H9.out.2, ?_⟩
     ·rw [HTS.out]; exact H9.out.1
     ·rw [HTS.out]; exact ⟨HVS.out.1.rng, HVS.out.1.nodup⟩
    case measure => simp [intOf]; omega
   ·obtain rfl : j = kids.length := by omega
    rw [List.take_length] at hO
    have HO9 := hid hO
    have HKP := hid hkp
    clear hO hkp hord
    go_wp2
    go_end0
    refine ⟨rfl, ?_, HKP.out⟩
    rw [HV.out]
    exact HO9.out
end Go.Proofs.YtcigjmlileckhaaGreatDoor
