/- Walk of the closure of diagram.And. -/
import Derived.Test.YtcigjmlileckhaaGreatDoorM42
import Derived.Test.YtcigjmlileckhaaGreatDoorM27
import Derived.Test.YtcigjmlileckhaaGreatDoorM10
import Derived.Deep.CutRange
/- Walk of the closure of diagram.And. -/
namespace Go.Proofs.YtcigjmlileckhaaGreatDoor
open Go.RowKit
theorem Tryz.egAnd1 : ∀ args w, (callFunc 69 args).run Tryz.prog w = .ok (.enter 69 args) w := enters_of Tryz.func69 (by kernel_rfl) rfl
theorem oper_store_blk {P : Program} {o : Oper} {a : Act} {w : World} {K : Act → World → Prop} {Q : Exit → Act → World → Prop} (ty : TypeId) (x y : Operand) (ho : o.op = .store ty x y) {g : Nat} {t : TypeId} {cs cells : Array Value} (hx : a.eval x = .pointer (some ⟨g, 0, none⟩)) (hy : a.eval y = .agg cells)
  (hb : Blk w g t cs) (hs : cs.size = cells.size) (hi : (P.info? ty).map (·.size) = some cells.size) (h1 : cells.all (·.oneCell') = true)
  (h : ∀ w1, Blk w1 g t cells → Keeps (fun b => b ≠ g) w w1 → w1.heap.size = w.heap.size → K (a.put o.dst undef) w1) : Oper.wp P o a w K Q := by
 refine wp_store_mid ty x y ho g 0 cells hx hy (hs ▸ hb.there) hi h1 ?_
 obtain ⟨s1, s2, s3, s4⟩ := size_setCells g cells.toList 0 w
 refine h _ ?_ ⟨s2, s3, s4, Nat.le_of_eq s1.symm, fun k _ hk => heap_setCells_other g _ 0 w k hk⟩ s1
 have : Blk (w.setCells g 0 cells.toList) g t (setFrom cs cells.toList 0) := by first | exact Blk.setCells cells.toList 0 w cs hb | exact Blk.setCells (w := w) cells.toList 0 w cs hb
 rwa [setFrom_all (by simpa using hs.symm), Array.toArray_toList] at this
theorem mix_lib {lo hi : Int} {q : List Int} (hq : ∀ v ∈ q, lo < v ∧ v ≤ hi) : Lib.compact ((lo :: q).mergeSort fun a b => decide (a ≤ b)) = lo :: ascOf q := by
 have hsort : ((lo :: q).mergeSort fun a b => decide (a ≤ b)).Pairwise (· ≤ ·) := by
  have := List.pairwise_mergeSort (le := fun a b : Int => decide (a ≤ b)) (fun a b c h1 h2 => by simp at h1 h2 ⊢; omega) (fun a b => by simp; omega) (lo :: q)
  exact this.imp fun h => by simpa using h
 obtain ⟨h1, h2⟩ := compact_spec hsort
 generalize Lib.compact ((lo :: q).mergeSort fun a b => decide (a ≤ b)) = L at *
 have hmem : ∀ v, v ∈ L ↔ (v = lo ∨ v ∈ q) := fun v => by
  rw [h2, List.mem_mergeSort, List.mem_cons]
 have hlo : lo ∈ L := (hmem _).2 (Or.inl rfl)
 cases L with
 | nil => simp at hlo
 | cons a r =>
  have h1' := h1
  rw [List.pairwise_cons] at h1
  have ha : a = lo := by
   rcases (hmem a).1 (by simp) with h | h
   ·exact h
   ·rcases List.mem_cons.1 hlo with h' | h'
    ·exact h'.symm
    ·have := h1.1 _ h'; have := (hq _ h).1; omega
  subst ha
  have hb : ∀ v ∈ r, v ≤ hi := fun v hv => by
   rcases (hmem v).1 (List.mem_cons_of_mem _ hv) with h | h
   ·have := h1.1 v hv; omega
   ·exact (hq v h).2
  congr 1
  refine asc_ext (asc_of_pairwise h1' hb) (ascOf_asc hq) fun v => ?_
  rw [ascOf_mem]
  constructor
  ·intro hv
   rcases (hmem v).1 (List.mem_cons_of_mem _ hv) with h | h
   ·have := h1.1 v hv; omega
   ·exact h
  ·intro hv
   rcases List.mem_cons.1 ((hmem v).2 (Or.inr hv)) with h | h
   ·have := (hq v hv).1; omega
   ·exact h
section
variable {c : AV} {AA AB D : Option Addr} {acap bcap dcap : Nat} {a b : List NodeD} {ds : List FactD} {Zn : Zone} {B0 : Nat} {w : World} {st : ASt} {F Z : Zone}
theorem asc_lenA : ∀ {l : List Int} {lo hi : Int}, ascFrom lo hi l → lo ≤ hi → (l.length : Int) ≤ hi - lo
 | [], _, _, _, h => by simp; omega
 | c :: l, lo, hi, h, _ => by
  have := asc_lenA h.2.2 h.2.1
  have := h.1
  simp only [List.length_cons]; omega
/-- The starts of both, as far as they are gathered. -/
def mixL (lo : Int) (pc qc : List Int) (j : Nat) : List Int := lo :: ((if 0 < j then pc else []) ++ (if 1 < j then qc else []))
theorem mixL_len {lo : Int} {pc qc : List Int} (j : Nat) (hp : pc.length ≤ 1000000) (hq : qc.length ≤ 1000000) : (mixL lo pc qc j).length ≤ 2000001 := by
 unfold mixL
 rw [List.length_cons, List.length_append]
 split <;> split <;> simp <;> omega
/-- The cuts of a node that asks fact i. -/
def cutsAt (ds : List FactD) (i : Nat) (n : NodeD) : List Int := if askS ds n = i then n.cuts else []
theorem cutsAt_len {i : Nat} {n : NodeD} {lo hi : Int} (h : askS ds n = i → n.cuts ≠ [] ∧ ascFrom lo hi n.cuts) (hb : lo ≤ hi ∧ hi - lo ≤ 1000000) : (cutsAt ds i n).length ≤ 1000000 := by
 unfold cutsAt
 split
 ·rename_i e
  have := asc_lenA (h e).2 hb.1
  omega
 ·simp
theorem cuts_at {g : List NodeD} (hg : Good ds g) {x : Int} (hx : Rng g x) {n : NodeD} (hn : nAt g x = n) {i : Nat} (hi : i < ds.length) {fx : FactD} (hf : fAt ds (i : Int) = fx) (h : askS ds n = i) : n.cuts ≠ [] ∧ ascFrom fx.lo fx.hi n.cuts := by
 subst hn hf
 have hk : (nAt g x).kids ≠ [] := by
  intro hk
  unfold askS at h
  rw [if_pos hk] at h
  omega
 have I := hg.inner hx hk
 have hfi : (nAt g x).fact = i := by unfold askS at h; rw [if_neg hk] at h; exact h
 refine ⟨I.cuts, ?_⟩
 have := I.asc
 rwa [hfi] at this
/-- What the pair is that is new. -/
def bF (ds : List FactD) (a b : List NodeD) (k : Nat) (x y i : Int) (v : Int) (st : ASt) : Int × ASt := bothS ds a b k (stepS a x i v) (stepS b y i v) st
def newA (ds : List FactD) (a b : List NodeD) (k : Nat) (x y : Int) (st : ASt) (p q : NodeD) : Int × ASt :=
 let r := kidsA (bF ds a b k x y (min (askS ds p) (askS ds q))) (mixS ds p q) st
 let o := innerS r.2.all (min (askS ds p) (askS ds q)) (mixS ds p q) r.1
 (o.1, ⟨o.2, kvISet r.2.done (x, y) o.1⟩)
theorem both_eq (k : Nat) (x y : Int) (hkn : kvI st.done (x, y) = none) {p q : NodeD} (hp : nAt a x = p) (hq : nAt b y = q) :
  bothS ds a b (k + 1) x y st = if min (askS ds p) (askS ds q) = ds.length ∨ 4000 < st.all.length then ((nodeS st.all ⟨p.leaf && q.leaf, 0, [], []⟩).1, ⟨(nodeS st.all ⟨p.leaf && q.leaf, 0, [], []⟩).2, st.done⟩) else newA ds a b k x y st p q := by
 subst hp hq
 unfold bothS
 rw [hkn]
 rfl
/-- A pair that is known. -/
theorem both_known {va vb vd : Value} (x y : Int) (h : AnIn c va vb vd a b ds Zn B0 w st F Z) {r : Int} (hkn : kvI st.done (x, y) = some r) :
  Calls Tryz.prog 69 (c.args x y) w (AnPost c va vb vd w F Z (r, st)) := by
 have hl := Tryz.lookP h.mem.done x y
 simp only [hkn, Option.isSome_some] at hl
 have d0 := h.mem.dv.cell
 have d0l := h.mem.dv.lt
 have HM := hid h.mem
 clear h hkn
 unfold AV.args
 go_enter Tryz.func69, Tryz.ntmps69
 go_wp2
 go_ret
 exact ⟨rfl, ⟨F, Z, HM.out, fun b hb => Or.inl hb, fun b hb => Or.inl hb⟩, Keeps.refl _ _⟩
theorem AnIn.kid {va vb vd : Value} {w3 wr w7 : World} {st' : ASt} {kids : List Int} {vk : Value} {F' Z' : Zone} (h : AnIn c va vb vd a b ds Zn B0 w st F Z) (hk3 : Keeps (c.kept F) w w3) (hL : AnL c va vb vd w3 wr F Z st' kids vk F' Z')
  (hb7 : Below wr.heap.size wr w7) (hw : WStA st') (hn : inn st'.all ≤ 4000 + ds.length) : AnIn c va vb vd a b ds Zn B0 w7 st' F' Z' := by
 have s3 := hk3.size
 have s6 := hL.kept.size
 have s7 := hb7.size
 have hk7 : Keeps (c.kept F) w w7 := hk3.trans (hL.kept.trans (.of_below hb7))
 refine ⟨hL.mem.below hb7, h.na.keep (hk7.mono fun b _ hb => (h.off b hb).1), h.nb.keep (hk7.mono fun b _ hb => (h.off b hb).1), h.fs.keep (hk7.mono fun b _ hb => (h.off b hb).1), fun x hx => ⟨keptA_step hL.hF (h.off x hx).1 (h.off x hx).2 s3, by have := (h.off x hx).2; omega⟩,
  h.tab.on (h.belowB hk7), ⟨by have := h.base.1; omega, fun b hb => ?_, h.base.2.2⟩, hw, hn, h.ga, h.gb⟩
 rcases hL.hF b hb with hb | hb
 ·exact h.base.2.1 b hb
 ·have := h.base.1; omega
/-- What is known of pairs that ask later facts. -/
def BothIH (c : AV) (va vb vd : Value) (a b : List NodeD) (ds : List FactD) (Zn : Zone) (B0 k : Nat) : Prop :=
 ∀ (x y : Int) (w : World) (st : ASt) (F Z : Zone), Rng a x → Rng b y → ds.length - (min (askS ds (nAt a x)) (askS ds (nAt b y))).toNat < k → AnIn c va vb vd a b ds Zn B0 w st F Z →
  Calls Tryz.prog 69 (c.args x y) w (AnPost c va vb vd w F Z (bothS ds a b k x y st))
set_option maxRecDepth 100000 in
set_option maxHeartbeats 8000000 in
theorem both_new (k : Nat) (IH : BothIH c (.slice AA a.length acap) (.slice AB b.length bcap) (.slice D ds.length dcap) a b ds Zn B0 k) (x y : Int) (hm : ds.length - (min (askS ds (nAt a x)) (askS ds (nAt b y))).toNat < k + 1) (h : AnIn c (.slice AA a.length acap) (.slice AB b.length bcap) (.slice D ds.length dcap) a b ds Zn B0 w st F Z) (hx : Rng a x) (hy : Rng b y) (hkn : kvI st.done (x, y) = none) :
  Calls Tryz.prog 69 (c.args x y) w (AnPost c (.slice AA a.length acap) (.slice AB b.length bcap) (.slice D ds.length dcap) w F Z (bothS ds a b (k + 1) x y st)) := by
 have HH := hid h
 have HIH := hid IH
 have HMEAS := hid hm
 have hl := Tryz.lookP h.mem.done x y
 simp only [hkn, Option.isSome_none] at hl
 clear IH hm
 have HKN := hid hkn
 obtain ⟨AA', acap', hea, -, -, hata⟩ := h.na.open_
 injection hea with e1 e2 e3
 subst e1 e3
 clear e2
 obtain ⟨AB', bcap', heb, -, -, hatb⟩ := h.nb.open_
 injection heb with e1 e2 e3
 subst e1 e3
 clear e2
 obtain ⟨xi, rfl⟩ := Int.eq_ofNat_of_zero_le hx.1
 obtain ⟨yi, rfl⟩ := Int.eq_ofNat_of_zero_le hy.1
 have hxl : xi < a.length := by have := hx.2; omega
 have hyl : yi < b.length := by have := hy.2; omega
 obtain ⟨ab, aoff, acu, aki, rfl, haz, hab, a0, a1, a2, a3, haf, hacu, haki⟩ := hata xi hxl
 obtain ⟨bb, boff, bcu, bki, rfl, hbz, hbb, b0, b1, b2, b3, hbf, hbcu, hbki⟩ := hatb yi hyl
 have d0 := h.mem.dv.cell
 have d0l := h.mem.dv.lt
 have v0 := h.mem.av.cell
 have v0l := h.mem.av.lt
 have u0 := h.mem.bv.cell
 have u0l := h.mem.bv.lt
 have hxl1 : (xi : Int) < (a.length : Int) := by omega
 have hyl1 : (yi : Int) < (b.length : Int) := by omega
 have hnx : nAt a (xi : Int) = a[xi] := nAt_nat hxl
 have hny : nAt b (yi : Int) = b[yi] := nAt_nat hyl
 have HP := hid (show NodeR Zn w [.bool a[xi].leaf, .int .i64 a[xi].fact, acu, aki] a[xi] from ⟨_, _, rfl, haf, hacu, haki⟩)
 have HQ := hid (show NodeR Zn w [.bool b[yi].leaf, .int .i64 b[yi].fact, bcu, bki] b[yi] from ⟨_, _, rfl, hbf, hbcu, hbki⟩)
 have HX := hid (And.intro hx (And.intro hy (And.intro hnx hny)))
 have HU := hid (both_eq (ds := ds) (a := a) (b := b) (st := st) k xi yi HKN.out hnx hny)
 have hrp := ask_rng h.ga.good hx
 have hrq := ask_rng h.gb.good hy
 rw [hnx] at hrp
 rw [hny] at hrq
 rw [hnx, hny] at HMEAS
 generalize a[xi] = p at *
 generalize b[yi] = q at *
 obtain ⟨PU, pucap, rfl, -⟩ := hacu.form
 obtain ⟨PK, pkcap, rfl, -⟩ := haki.form
 obtain ⟨QU, qucap, rfl, -⟩ := hbcu.form
 obtain ⟨QK, qkcap, rfl, -⟩ := hbki.form
 clear h hkn hata hatb haf hacu haki hbf hbcu hbki hx hy hnx hny
 unfold AV.args
 go_enter Tryz.func69, Tryz.ntmps69
 go_upto_region 4 with (fail)
 go_cut [13, 14] from 33 to 42 (fun vp vq wx => ∃ bp bq, vp = .pointer (some ⟨bp, 0, none⟩) ∧ vq = .pointer (some ⟨bq, 0, none⟩) ∧ Blk wx bp 55 #[.bool p.leaf, .int .i64 p.fact, .slice PU p.cuts.length pucap, .slice PK p.kids.length pkcap] ∧ Blk wx bq 55 #[.bool q.leaf, .int .i64 q.fact, .slice QU q.cuts.length qucap, .slice QK q.kids.length qkcap] ∧ w.heap.size ≤ bp ∧ w.heap.size ≤ bq ∧ Below w.heap.size w wx)
 case first =>
  --Q{
  refine wp_region_S 13 (fun W => Below w.heap.size w W) (by kernel_rfl) ?_
  have hS : (fun W => Below w.heap.size w W) w.drew := (Below.refl _ _).drew
  have HC := hid (fun (W : World) (hW : Below w.heap.size w W) => (show W.cell? ⟨c.Av, 0, none⟩ = some (.slice (some ⟨ab, aoff, none⟩) a.length acap) ∧ W.cell? ⟨c.Bv, 0, none⟩ = some (.slice (some ⟨bb, boff, none⟩) b.length bcap) ∧ W.cell? ⟨ab, aoff + xi * 4, none⟩ = some (.bool p.leaf) ∧ W.cell? ⟨ab, aoff + xi * 4 + 1, none⟩ = some (.int .i64 p.fact) ∧ W.cell? ⟨ab, aoff + xi * 4 + 2, none⟩ = some (.slice PU p.cuts.length pucap) ∧ W.cell? ⟨ab, aoff + xi * 4 + 3, none⟩ = some (.slice PK p.kids.length pkcap) ∧
    W.cell? ⟨bb, boff + yi * 4, none⟩ = some (.bool q.leaf) ∧ W.cell? ⟨bb, boff + yi * 4 + 1, none⟩ = some (.int .i64 q.fact) ∧ W.cell? ⟨bb, boff + yi * 4 + 2, none⟩ = some (.slice QU q.cuts.length qucap) ∧ W.cell? ⟨bb, boff + yi * 4 + 3, none⟩ = some (.slice QK q.kids.length qkcap) from
   ⟨(hW.cell (p := ⟨c.Av, 0, none⟩) v0l).trans v0, (hW.cell (p := ⟨c.Bv, 0, none⟩) u0l).trans u0, (hW.cell (p := ⟨ab, aoff + xi * 4, none⟩) hab).trans a0, (hW.cell (p := ⟨ab, aoff + xi * 4 + 1, none⟩) hab).trans a1, (hW.cell (p := ⟨ab, aoff + xi * 4 + 2, none⟩) hab).trans a2, (hW.cell (p := ⟨ab, aoff + xi * 4 + 3, none⟩) hab).trans a3,
    (hW.cell (p := ⟨bb, boff + yi * 4, none⟩) hbb).trans b0, (hW.cell (p := ⟨bb, boff + yi * 4 + 1, none⟩) hbb).trans b1, (hW.cell (p := ⟨bb, boff + yi * 4 + 2, none⟩) hbb).trans b2, (hW.cell (p := ⟨bb, boff + yi * 4 + 3, none⟩) hbb).trans b3⟩))
  clear a0 a1 a2 a3 b0 b1 b2 b3 v0 u0
  (refine wpAnyS_take0 (i := 0) (v := ?_) rfl (by kernel_rfl) (by kernel_rfl) (fun _ _ _ h => h) (Or.inl ⟨by rfl, ?_⟩) (Or.inr hS) ?_; rotate_left; (intro w hSw; clear hSw; go_simp; (try with_reducible rfl)); ((try simp only [Act.put]); (try simp only [nrA]); (try simp only [nrB]); (try simp only [nrC])))
  (refine wpAnyS_take (i := 1) (v := ?_) rfl (by kernel_rfl) (by kernel_rfl) (fun _ _ _ h => h) (Or.inl ⟨by rfl, ?_⟩) hS ?_; rotate_left; (intro w hSw; have hkw := hSw; obtain ⟨h0, h1, h2, h3, h4, h5, h6, h7, h8, h9⟩ := HC.out _ hkw; clear hkw; go_simp; (try with_reducible rfl)); ((try simp only [Act.put]); (try simp only [nrA]); (try simp only [nrB]); (try simp only [nrC])))
  (refine wpAnyS_take0 (i := 2) (v := ?_) rfl (by kernel_rfl) (by kernel_rfl) (fun _ _ _ h => h) (Or.inl ⟨by rfl, ?_⟩) (Or.inr hS) ?_; rotate_left; (intro w hSw; clear hSw; go_simp; (try with_reducible rfl)); ((try simp only [Act.put]); (try simp only [nrA]); (try simp only [nrB]); (try simp only [nrC])))
  (refine wpAnyS_take0 (i := 3) (v := ?_) rfl (by kernel_rfl) (by kernel_rfl) (fun _ _ _ h => h) (Or.inl ⟨by rfl, ?_⟩) (Or.inr hS) ?_; rotate_left; (intro w hSw; clear hSw; go_simp; (try with_reducible rfl)); ((try simp only [Act.put]); (try simp only [nrA]); (try simp only [nrB]); (try simp only [nrC])))
  (refine wpAnyS_take (i := 4) (v := ?_) rfl (by kernel_rfl) (by kernel_rfl) (fun _ _ _ h => h) (Or.inl ⟨by rfl, ?_⟩) hS ?_; rotate_left; (intro w hSw; have hkw := hSw; obtain ⟨h0, h1, h2, h3, h4, h5, h6, h7, h8, h9⟩ := HC.out _ hkw; clear hkw; go_simp; (try with_reducible rfl)); ((try simp only [Act.put]); (try simp only [nrA]); (try simp only [nrB]); (try simp only [nrC])))
  (refine wpAnyS_take0 (i := 5) (v := ?_) rfl (by kernel_rfl) (by kernel_rfl) (fun _ _ _ h => h) (Or.inl ⟨by rfl, ?_⟩) (Or.inr hS) ?_; rotate_left; (intro w hSw; clear hSw; go_simp; (try with_reducible rfl)); ((try simp only [Act.put]); (try simp only [nrA]); (try simp only [nrB]); (try simp only [nrC])))
  (refine wpAnyS_take (i := 6) (v := ?_) rfl (by kernel_rfl) (by kernel_rfl) (fun _ _ _ h => h) (Or.inl ⟨by rfl, ?_⟩) hS ?_; rotate_left; (intro w hSw; have hkw := hSw; obtain ⟨h0, h1, h2, h3, h4, h5, h6, h7, h8, h9⟩ := HC.out _ hkw; clear hkw; go_simp; (try with_reducible rfl)); ((try simp only [Act.put]); (try simp only [nrA]); (try simp only [nrB]); (try simp only [nrC])))
  (refine wpAnyS_take0 (i := 7) (v := ?_) rfl (by kernel_rfl) (by kernel_rfl) (fun _ _ _ h => h) (Or.inl ⟨by rfl, ?_⟩) (Or.inr hS) ?_; rotate_left; (intro w hSw; clear hSw; go_simp; (try with_reducible rfl)); ((try simp only [Act.put]); (try simp only [nrA]); (try simp only [nrB]); (try simp only [nrC])))
  (refine wpAnyS_take0 (i := 8) (v := ?_) rfl (by kernel_rfl) (by kernel_rfl) (fun _ _ _ h => h) (Or.inl ⟨by rfl, ?_⟩) (Or.inr hS) ?_; rotate_left; (intro w hSw; clear hSw; go_simp; (try with_reducible rfl)); ((try simp only [Act.put]); (try simp only [nrA]); (try simp only [nrB]); (try simp only [nrC])))
  (refine wpAnyS_take (i := 9) (v := ?_) rfl (by kernel_rfl) (by kernel_rfl) (fun _ _ _ h => h) (Or.inl ⟨by rfl, ?_⟩) hS ?_; rotate_left; (intro w hSw; have hkw := hSw; obtain ⟨h0, h1, h2, h3, h4, h5, h6, h7, h8, h9⟩ := HC.out _ hkw; clear hkw; go_simp; (try with_reducible rfl)); ((try simp only [Act.put]); (try simp only [nrA]); (try simp only [nrB]); (try simp only [nrC])))
  clear HC
  have hS : Below w.heap.size w w.drew := hS
  generalize w.drew = x0 at *
  refine wpAnyS_two (i := 10) (j := 11) (by kernel_rfl) rfl rfl rfl rfl (fun K hK => ?_) (fun K hK => ?_)
  ·go_wp2_with fail
   refine hK _ _ (Or.inr (hS.alloc hS.size _)) ?_
   clear hK K
   ((try simp only [Act.put]); (try simp only [nrA]); (try simp only [nrB]); (try simp only [nrC]))
   refine wpAnyS_one (i := 11) (by kernel_rfl) rfl rfl (fun K hK => ?_)
   go_wp2_with fail
   refine hK _ _ (Or.inr ((hS.alloc hS.size _).alloc (by have := hS.size; simp; omega) _)) ?_
   clear hK K
   ((try simp only [Act.put]); (try simp only [nrA]); (try simp only [nrB]); (try simp only [nrC]))
   have hBp := (Blk.new x0 55 #[.bool false, .int .i64 0, .slice none 0 0, .slice none 0 0]).alloc (.cells #[.bool false, .int .i64 0, .slice none 0 0, .slice none 0 0] 55)
   have hBq := Blk.new' (x0.alloc (.cells #[.bool false, .int .i64 0, .slice none 0 0, .slice none 0 0] 55)) 55 #[.bool false, .int .i64 0, .slice none 0 0, .slice none 0 0] (n := x0.heap.size + 1) (by simp)
   have hS2 : Below w.heap.size w ((x0.alloc (.cells #[.bool false, .int .i64 0, .slice none 0 0, .slice none 0 0] 55)).alloc (.cells #[.bool false, .int .i64 0, .slice none 0 0, .slice none 0 0] 55)) := (hS.alloc hS.size _).alloc (by have := hS.size; simp; omega) _
   have hgep : w.heap.size ≤ x0.heap.size := hS.size
   have hgeq : w.heap.size ≤ x0.heap.size + 1 := by have := hS.size; omega
   have hne : x0.heap.size ≠ x0.heap.size + 1 := by omega
   generalize (x0.alloc (.cells #[.bool false, .int .i64 0, .slice none 0 0, .slice none 0 0] 55)).alloc (.cells #[.bool false, .int .i64 0, .slice none 0 0, .slice none 0 0] 55) = x2 at *
   generalize x0.heap.size + 1 = nq at *
   generalize x0.heap.size = np at *
   refine wpAnyS_one (i := 12) (by kernel_rfl) rfl rfl (fun K hK => ?_)
   refine oper_store_blk 55 (.tmp 13) (.tmp 37) rfl rfl rfl hBp rfl (by kernel_rfl) (by simp [Value.oneCell']) ?_
   intro w4 hb4 hk4 hs4
   have hBq4 : Blk w4 nq 55 #[.bool false, .int .i64 0, .slice none 0 0, .slice none 0 0] := hBq.keep hk4 hne.symm
   have hw4 : Below w.heap.size w w4 := below_keeps_ne hS2 hk4 hgep hS2.size
   refine hK _ _ (Or.inr hw4) ?_
   clear hK K
   ((try simp only [Act.put]); (try simp only [nrA]); (try simp only [nrB]); (try simp only [nrC]))
   refine wpAnyS_one (i := 13) (by kernel_rfl) rfl rfl (fun K hK => ?_)
   refine oper_store_blk 55 (.tmp 14) (.tmp 42) rfl rfl rfl hBq4 rfl (by kernel_rfl) (by simp [Value.oneCell']) ?_
   intro w5 hb5 hk5 hs5
   have hw5 : Below w.heap.size w w5 := below_keeps_ne hw4 hk5 hgeq hw4.size
   refine hK _ _ (Or.inl rfl) ?_
   clear hK K
   ((try simp only [Act.put]); (try simp only [nrA]); (try simp only [nrB]); (try simp only [nrC]))
   refine wpAnyS_done (by kernel_rfl) ?_ _
   go_wp2_with fail
   go_meet
   exact ⟨np, nq, rfl, rfl, hb4.keep hk5 hne, hb5, hgep, hgeq, hw5⟩
  ·go_wp2_with fail
   refine hK _ _ (Or.inr (hS.alloc hS.size _)) ?_
   clear hK K
   ((try simp only [Act.put]); (try simp only [nrA]); (try simp only [nrB]); (try simp only [nrC]))
   refine wpAnyS_one (i := 10) (by kernel_rfl) rfl rfl (fun K hK => ?_)
   go_wp2_with fail
   refine hK _ _ (Or.inr ((hS.alloc hS.size _).alloc (by have := hS.size; simp; omega) _)) ?_
   clear hK K
   ((try simp only [Act.put]); (try simp only [nrA]); (try simp only [nrB]); (try simp only [nrC]))
   have hBq := (Blk.new x0 55 #[.bool false, .int .i64 0, .slice none 0 0, .slice none 0 0]).alloc (.cells #[.bool false, .int .i64 0, .slice none 0 0, .slice none 0 0] 55)
   have hBp := Blk.new' (x0.alloc (.cells #[.bool false, .int .i64 0, .slice none 0 0, .slice none 0 0] 55)) 55 #[.bool false, .int .i64 0, .slice none 0 0, .slice none 0 0] (n := x0.heap.size + 1) (by simp)
   have hS2 : Below w.heap.size w ((x0.alloc (.cells #[.bool false, .int .i64 0, .slice none 0 0, .slice none 0 0] 55)).alloc (.cells #[.bool false, .int .i64 0, .slice none 0 0, .slice none 0 0] 55)) := (hS.alloc hS.size _).alloc (by have := hS.size; simp; omega) _
   have hgeq : w.heap.size ≤ x0.heap.size := hS.size
   have hgep : w.heap.size ≤ x0.heap.size + 1 := by have := hS.size; omega
   have hne : x0.heap.size + 1 ≠ x0.heap.size := by omega
   generalize (x0.alloc (.cells #[.bool false, .int .i64 0, .slice none 0 0, .slice none 0 0] 55)).alloc (.cells #[.bool false, .int .i64 0, .slice none 0 0, .slice none 0 0] 55) = x2 at *
   generalize x0.heap.size + 1 = np at *
   generalize x0.heap.size = nq at *
   refine wpAnyS_one (i := 12) (by kernel_rfl) rfl rfl (fun K hK => ?_)
   refine oper_store_blk 55 (.tmp 13) (.tmp 37) rfl rfl rfl hBp rfl (by kernel_rfl) (by simp [Value.oneCell']) ?_
   intro w4 hb4 hk4 hs4
   have hBq4 : Blk w4 nq 55 #[.bool false, .int .i64 0, .slice none 0 0, .slice none 0 0] := hBq.keep hk4 hne.symm
   have hw4 : Below w.heap.size w w4 := below_keeps_ne hS2 hk4 hgep hS2.size
   refine hK _ _ (Or.inr hw4) ?_
   clear hK K
   ((try simp only [Act.put]); (try simp only [nrA]); (try simp only [nrB]); (try simp only [nrC]))
   refine wpAnyS_one (i := 13) (by kernel_rfl) rfl rfl (fun K hK => ?_)
   refine oper_store_blk 55 (.tmp 14) (.tmp 42) rfl rfl rfl hBq4 rfl (by kernel_rfl) (by simp [Value.oneCell']) ?_
   intro w5 hb5 hk5 hs5
   have hw5 : Below w.heap.size w w5 := below_keeps_ne hw4 hk5 hgeq hw4.size
   refine hK _ _ (Or.inl rfl) ?_
   clear hK K
   ((try simp only [Act.put]); (try simp only [nrA]); (try simp only [nrB]); (try simp only [nrC]))
   refine wpAnyS_done (by kernel_rfl) ?_ _
   go_wp2_with fail
   go_meet
   exact ⟨np, nq, rfl, rfl, hb4.keep hk5 hne, hb5, hgep, hgeq, hw5⟩
  --Q}
 case rest =>
  obtain ⟨np, nq, rfl, rfl, hbp, hbq, hgep, hgeq, hb4⟩ := hcut
  rename World => w4
  obtain ⟨mn, hmn⟩ : ∃ mn : Int, min (askS ds p) (askS ds q) = mn := ⟨_, rfl⟩
  have hmn0 : 0 ≤ mn ∧ mn ≤ ds.length := by omega
  rw [hmn] at HU
  have f0 := (hb4.cell (p := ⟨c.Fv, 0, none⟩) HH.out.mem.fv.lt).trans HH.out.mem.fv.cell
  have f0l := lt_of_cell f0
  have HA1 := hid (fun (W : World) (hW : Below w4.heap.size w4 W) => ask_any Zn Zn p [.bool p.leaf, .int .i64 p.fact, .slice PU p.cuts.length pucap, .slice PK p.kids.length pkcap] (.slice D ds.length dcap) ds W (HP.out.keep (.of_below (hb4.trans (hW.mono hb4.size)))) (HH.out.fs.keep (.of_below (hb4.trans (hW.mono hb4.size)))))
  have HA2 := hid (fun (W : World) (hW : Below w4.heap.size w4 W) => ask_any Zn Zn q [.bool q.leaf, .int .i64 q.fact, .slice QU q.cuts.length qucap, .slice QK q.kids.length qkcap] (.slice D ds.length dcap) ds W (HQ.out.keep (.of_below (hb4.trans (hW.mono hb4.size)))) (HH.out.fs.keep (.of_below (hb4.trans (hW.mono hb4.size)))))
  have HCELL := hid (fun (W : World) (hW : Below w4.heap.size w4 W) => (show W.cell? ⟨np, 0, none⟩ = some (.bool p.leaf) ∧ W.cell? ⟨np, 1, none⟩ = some (.int .i64 p.fact) ∧ W.cell? ⟨np, 2, none⟩ = some (.slice PU p.cuts.length pucap) ∧ W.cell? ⟨np, 3, none⟩ = some (.slice PK p.kids.length pkcap) ∧
    W.cell? ⟨nq, 0, none⟩ = some (.bool q.leaf) ∧ W.cell? ⟨nq, 1, none⟩ = some (.int .i64 q.fact) ∧ W.cell? ⟨nq, 2, none⟩ = some (.slice QU q.cuts.length qucap) ∧ W.cell? ⟨nq, 3, none⟩ = some (.slice QK q.kids.length qkcap) ∧ W.cell? ⟨c.Fv, 0, none⟩ = some (.slice D ds.length dcap) from by
   have h1 := hbp.below hW hbp.lt
   have h2 := hbq.below hW hbq.lt
   exact ⟨h1.cell 0, h1.cell 1, h1.cell 2, h1.cell 3, h2.cell 0, h2.cell 1, h2.cell 2, h2.cell 3, (hW.cell (p := ⟨c.Fv, 0, none⟩) f0l).trans f0⟩))
  have HB4 := hid (And.intro hbp (And.intro hbq (And.intro hgep (And.intro hgeq hb4))))
  clear hbp hbq hgep hgeq hb4 f0 f0l a0 a1 a2 a3 b0 b1 b2 b3 v0 v0l u0 u0l d0 d0l hl
  go_upto_region 5 with (fail)
  go_cut [15] from 43 to 49 (fun vi wx => vi = .int .i64 mn ∧ Below w4.heap.size w4 wx)
  case first =>
   --Q{
   refine wp_region_S 7 (fun W => Below w4.heap.size w4 W) (by kernel_rfl) ?_
   have hS : (fun W => Below w4.heap.size w4 W) w4.drew := (Below.refl _ _).drew
   (refine wpAnyS_take (i := 0) (v := ?_) rfl (by kernel_rfl) (by kernel_rfl) (fun _ _ _ h => h) (Or.inl ⟨by rfl, ?_⟩) hS ?_; rotate_left; (intro w hSw; have hkw := hSw; obtain ⟨h0, h1, h2, h3, h4, h5, h6, h7, h8⟩ := HCELL.out _ hkw; clear hkw; go_simp; (try with_reducible rfl)); ((try simp only [Act.put]); (try simp only [nrA]); (try simp only [nrB]); (try simp only [nrC])))
   (refine wpAnyS_take (i := 1) (v := ?_) rfl (by kernel_rfl) (by kernel_rfl) (fun _ _ _ h => h) (Or.inl ⟨by rfl, ?_⟩) hS ?_; rotate_left; (intro w hSw; have hkw := hSw; obtain ⟨h0, h1, h2, h3, h4, h5, h6, h7, h8⟩ := HCELL.out _ hkw; clear hkw; go_simp; (try with_reducible rfl)); ((try simp only [Act.put]); (try simp only [nrA]); (try simp only [nrB]); (try simp only [nrC])))
   (refine wpAnyS_take (i := 3) (v := ?_) rfl (by kernel_rfl) (by kernel_rfl) (fun _ _ _ h => h) (Or.inl ⟨by rfl, ?_⟩) hS ?_; rotate_left; (intro w hSw; have hkw := hSw; obtain ⟨h0, h1, h2, h3, h4, h5, h6, h7, h8⟩ := HCELL.out _ hkw; clear hkw; go_simp; (try with_reducible rfl)); ((try simp only [Act.put]); (try simp only [nrA]); (try simp only [nrB]); (try simp only [nrC])))
   (refine wpAnyS_take (i := 4) (v := ?_) rfl (by kernel_rfl) (by kernel_rfl) (fun _ _ _ h => h) (Or.inl ⟨by rfl, ?_⟩) hS ?_; rotate_left; (intro w hSw; have hkw := hSw; obtain ⟨h0, h1, h2, h3, h4, h5, h6, h7, h8⟩ := HCELL.out _ hkw; clear hkw; go_simp; (try with_reducible rfl)); ((try simp only [Act.put]); (try simp only [nrA]); (try simp only [nrB]); (try simp only [nrC])))
   have hS : Below w4.heap.size w4 w4.drew := hS
   generalize w4.drew = x0 at *
   refine wpAnyS_one (i := 2) (by kernel_rfl) rfl rfl (fun K hK => ?_)
   go_wp2_with fail
   refine (HA1.out _ hS).mono ?_
   rintro e x1 ⟨rfl, hb⟩
   have hS1 : Below w4.heap.size w4 x1 := hS.trans (hb.mono hS.size)
   refine hK _ _ (Or.inr hS1) ?_
   clear hK K
   ((try simp only [Act.put]); (try simp only [nrA]); (try simp only [nrB]); (try simp only [nrC]))
   refine wpAnyS_one (i := 5) (by kernel_rfl) rfl rfl (fun K hK => ?_)
   go_wp2_with fail
   refine (HA2.out _ hS1).mono ?_
   rintro e x2 ⟨rfl, hb2⟩
   have hS2 : Below w4.heap.size w4 x2 := hS1.trans (hb2.mono hS1.size)
   refine hK _ _ (Or.inr hS2) ?_
   clear hK K
   ((try simp only [Act.put]); (try simp only [nrA]); (try simp only [nrB]); (try simp only [nrC]))
   refine wpAnyS_one (i := 6) (by kernel_rfl) rfl rfl (fun K hK => ?_)
   go_wp2_with fail
   refine hK _ _ (Or.inr hS2) ?_
   clear hK K
   ((try simp only [Act.put]); (try simp only [nrA]); (try simp only [nrB]); (try simp only [nrC]))
   refine wpAnyS_one (i := 7) (by kernel_rfl) rfl rfl (fun K hK => ?_)
   go_wp2_with fail
   refine hK _ _ (Or.inl rfl) ?_
   clear hK K
   ((try simp only [Act.put]); (try simp only [nrA]); (try simp only [nrB]); (try simp only [nrC]))
   refine wpAnyS_done (by kernel_rfl) ?_ _
   go_wp2_with fail
   go_meet
   exact ⟨rfl, hS2⟩
   --Q}
  case rest =>
   obtain ⟨rfl, hb5⟩ := hcut
   rename World => w5
   have hb45 := HB4.out.2.2.2.2.trans (hb5.mono HB4.out.2.2.2.2.size)
   have hm5 := HH.out.mem.below hb45
   have HM5 := hid hm5
   obtain ⟨p0, p1, p2, p3, q0, q1, q2, q3, f0⟩ := HCELL.out _ hb5
   have p0l := lt_of_cell p0
   have q0l := lt_of_cell q0
   have f0l := lt_of_cell f0
   have m0 := hm5.mv.cell
   have m0l := hm5.mv.lt
   obtain ⟨AL, alcap, l0, l0l⟩ := hm5.mkr.all_cell
   have HB5 := hid (And.intro hb5 hb45)
   have HN := hid (fun (l : Bool) => HH.out.node l hb45)
   have HE := hid (fun (l : Bool) (e : Ending) (w' : World) hp => @an_leaf c (.slice (some ⟨ab, aoff, none⟩) a.length acap) (.slice (some ⟨bb, boff, none⟩) b.length bcap) (.slice D ds.length dcap) w w' st F Z w5 l e HH.out.mem hb45 hp)
   clear hm5 hb5 hb45 HA1 HA2
   by_cases hend : mn = ds.length ∨ 4000 < st.all.length
   ·skip
    --Q{
    have HEND := hid (HU.out.trans (if_pos hend))
    clear HU
    by_cases h1 : mn = ds.length
    ·subst h1
     clear hend hmn0
     cases hpl : p.leaf with
     | true =>
      rw [hpl] at p0
      rw [hpl, Bool.true_and] at HEND
      clear hpl
      go_wp2_with fail
      refine (HN.out q.leaf).mono ?_
      intro e w6 hp
      have HF := hid (HE.out _ _ _ hp)
      obtain ⟨rfl, -⟩ := hp
      go_wp2
      go_ret
      rw [HEND.out]
      exact HF.out
     | false =>
      rw [hpl] at p0
      rw [hpl, Bool.false_and] at HEND
      clear hpl
      go_wp2_with fail
      refine (HN.out false).mono ?_
      intro e w6 hp
      have HF := hid (HE.out _ _ _ hp)
      obtain ⟨rfl, -⟩ := hp
      go_wp2
      go_ret
      rw [HEND.out]
      exact HF.out
    ·have h2 : 4000 < st.all.length := hend.resolve_left h1
     have e1 : (mn == (ds.length : Int)) = false := by simp [h1]
     have e2 : decide ((4000 : Int) < (st.all.length : Int)) = true := by simp; omega
     have e3 : decide (4000 < st.all.length) = true := by simp; omega
     clear hend h1 h2
     cases hpl : p.leaf with
     | true =>
      rw [hpl] at p0
      rw [hpl, Bool.true_and] at HEND
      clear hpl
      go_wp2_with fail
      refine (HN.out q.leaf).mono ?_
      intro e w6 hp
      have HF := hid (HE.out _ _ _ hp)
      obtain ⟨rfl, -⟩ := hp
      go_wp2
      go_ret
      rw [HEND.out]
      exact HF.out
     | false =>
      rw [hpl] at p0
      rw [hpl, Bool.false_and] at HEND
      clear hpl
      go_wp2_with fail
      refine (HN.out false).mono ?_
      intro e w6 hp
      have HF := hid (HE.out _ _ _ hp)
      obtain ⟨rfl, -⟩ := hp
      go_wp2
      go_ret
      rw [HEND.out]
      exact HF.out
    --Q}
   ·have HEND := hid (HU.out.trans (if_neg hend))
    have hml : mn < ds.length := by omega
    have hal : st.all.length ≤ 4000 := by omega
    obtain ⟨i, rfl⟩ := Int.eq_ofNat_of_zero_le hmn0.1
    have hil : i < ds.length := by omega
    have e1 : ((i : Int) == (ds.length : Int)) = false := by simp; omega
    have e2 : decide ((4000 : Int) < (st.all.length : Int)) = false := by simp; omega
    have e3 : decide (4000 < st.all.length) = false := by simp; omega
    have hi1 : ((i : Nat) : Int) < (ds.length : Int) := by omega
    obtain ⟨D', dcap', he, -, -, hatd⟩ := HH.out.fs.open_
    injection he with he1 he2 he3
    subst he1 he3
    clear he2
    obtain ⟨fb, foff, rfl, hfz, hfbl, x0, x1, x2, x3, hfit⟩ := hatd i hil
    replace x2 := (HB5.out.2.cell (p := ⟨fb, foff + i * 4 + 2, none⟩) hfbl).trans x2
    have x2l := lt_of_cell x2
    have HIL := hid hil
    have HAL := hid hal
    have HMN := hid hmn
    have hfx : factOk ds[i] = true := validDom_fact HH.out.ga.dom (List.getElem_mem hil)
    have hxat : fAt ds (i : Int) = ds[i] := by show ds.getD i noFact = ds[i]; rw [List.getD_eq_getElem?_getD, List.getElem?_eq_getElem hil]; rfl
    have HX5 := hid (And.intro hfit (And.intro hfx hxat))
    generalize ds[i] = fx at *
    have hbl := own_of_blk (base := w5.heap.size) ((Blk.new w5 3 #[.int .i64 fx.lo]).alloc (.cells #[.bool p.leaf, .int .i64 p.fact, .slice PU p.cuts.length pucap, .slice PK p.kids.length pkcap, .bool q.leaf, .int .i64 q.fact, .slice QU q.cuts.length qucap, .slice QK q.kids.length qkcap] 55)) (Nat.le_refl _) (by simp [maxLen])
    have hbr := Blk.new' (w5.alloc (.cells #[.int .i64 fx.lo] 3)) 55 #[.bool p.leaf, .int .i64 p.fact, .slice PU p.cuts.length pucap, .slice PK p.kids.length pkcap, .bool q.leaf, .int .i64 q.fact, .slice QU q.cuts.length qucap, .slice QK q.kids.length qkcap] (n := w5.heap.size + 1) (by simp)
    have hb6 := below2 w5 (.cells #[.int .i64 fx.lo] 3) (.cells #[.bool p.leaf, .int .i64 p.fact, .slice PU p.cuts.length pucap, .slice PK p.kids.length pkcap, .bool q.leaf, .int .i64 q.fact, .slice QU q.cuts.length qucap, .slice QK q.kids.length qkcap] 55)
    have HB6 := hid (And.intro hbl (And.intro hbr hb6))
    clear hend hmn0 hml hal hil hatd hfz x0 x1 x3 hfit hfx hxat hbl hbr hb6 HU HN HE hrp hrq hmn
    go_wp2
    clear l0 l0l m0 m0l p0 p1 p2 p3 q0 q1 q2 q3 p0l q0l x2 x2l e1 e2 e3
    have hs6 := HB6.out.2.2.size
    generalize (w5.alloc (.cells #[.int .i64 fx.lo] 3)).alloc (.cells #[.bool p.leaf, .int .i64 p.fact, .slice PU p.cuts.length pucap, .slice PK p.kids.length pkcap, .bool q.leaf, .int .i64 q.fact, .slice QU q.cuts.length qucap, .slice QK q.kids.length qkcap] 55) = w6 at *
    generalize hgR : w5.heap.size + 1 = gR at *
    have hgRl : w5.heap.size < gR := by omega
    clear hgR
    have HCP := hid (fun h => cuts_at HH.out.ga.good HX.out.1 HX.out.2.2.1 HIL.out HX5.out.2.2 h)
    have HCQ := hid (fun h => cuts_at HH.out.gb.good HX.out.2.1 HX.out.2.2.2 HIL.out HX5.out.2.2 h)
    have HBD := hid (show fx.lo ≤ fx.hi ∧ fx.hi - fx.lo ≤ 1000000 from by have := factOk_bounds HX5.out.2.1; omega)
    have HCPL := hid (cutsAt_len HCP.out HBD.out)
    have HCQL := hid (cutsAt_len HCQ.out HBD.out)
    go_loopw [16, 84] (fun vv ix wr => ∃ (j : Nat) (vl : Value), j ≤ 2 ∧ ix = .int .i64 j ∧ vl = vv ∧ wr.ownsRow w5.heap.size 3 1 vl (mixL fx.lo (cutsAt ds i p) (cutsAt ds i q) j).length ((mixL fx.lo (cutsAt ds i p) (cutsAt ds i q) j).map (.int .i64)) ∧ Blk wr gR 55 #[.bool p.leaf, .int .i64 p.fact, .slice PU p.cuts.length pucap, .slice PK p.kids.length pkcap, .bool q.leaf, .int .i64 q.fact, .slice QU q.cuts.length qucap, .slice QK q.kids.length qkcap] ∧ vl.ownBlock ≠ some gR ∧ Below w5.heap.size w5 wr) (fun _ ix _ => 2 - (intOf ix).toNat)
    case atStart => exact ⟨0, _, by omega, rfl, rfl, HB6.out.1, HB6.out.2.1, by simp [Value.ownBlock]; omega, HB6.out.2.2⟩
    case round =>
     obtain ⟨j, vl, hj, rfl, rfl, hown, hR, hno, hbl⟩ := hrel
     rename World => wr
     by_cases hlt : j < 2
     ·skip
      --Q{
      obtain ⟨n, NU, nucap, NK, nkcap, r0, r1, r2, r3, hn, hcn, hml⟩ : ∃ (n : NodeD) (NU : Option Addr) (nucap : Nat) (NK : Option Addr) (nkcap : Nat), wr.cell? ⟨gR, j * 4, none⟩ = some (.bool n.leaf) ∧ wr.cell? ⟨gR, j * 4 + 1, none⟩ = some (.int .i64 n.fact) ∧ wr.cell? ⟨gR, j * 4 + 2, none⟩ = some (.slice NU n.cuts.length nucap) ∧ wr.cell? ⟨gR, j * 4 + 3, none⟩ = some (.slice NK n.kids.length nkcap) ∧
        NodeR Zn w [.bool n.leaf, .int .i64 n.fact, .slice NU n.cuts.length nucap, .slice NK n.kids.length nkcap] n ∧ (askS ds n = i → n.cuts ≠ [] ∧ ascFrom fx.lo fx.hi n.cuts) ∧ mixL fx.lo (cutsAt ds i p) (cutsAt ds i q) (j + 1) = mixL fx.lo (cutsAt ds i p) (cutsAt ds i q) j ++ cutsAt ds i n := by
       match j, hlt with
       | 0, _ => exact ⟨p, _, _, _, _, hR.cell 0, hR.cell 1, hR.cell 2, hR.cell 3, HP.out, HCP.out, by simp [mixL]⟩
       | 1, _ => exact ⟨q, _, _, _, _, hR.cell 4, hR.cell 5, hR.cell 6, hR.cell 7, HQ.out, HCQ.out, by simp [mixL]⟩
      have hbw : Below w.heap.size w wr := HB5.out.2.trans (hbl.mono HB5.out.2.size)
      have rl := hR.lt
      have f0r : wr.cell? ⟨c.Fv, 0, none⟩ = some (.slice (some ⟨fb, foff, none⟩) ds.length dcap) := (hbl.cell (p := ⟨c.Fv, 0, none⟩) f0l).trans f0
      have f0rl : c.Fv < wr.heap.size := lt_of_cell f0r
      have HAX := hid (fun (W : World) (hW : Below w.heap.size w W) => ask_any Zn Zn n [.bool n.leaf, .int .i64 n.fact, .slice NU n.cuts.length nucap, .slice NK n.kids.length nkcap] (.slice (some ⟨fb, foff, none⟩) ds.length dcap) ds W (hn.keep (.of_below hW)) (HH.out.fs.keep (.of_below hW)))
      have HR := hid (And.intro hR (And.intro hno (And.intro hbl hbw)))
      have HOWN := hid hown
      have HMLL := hid (mixL_len (lo := fx.lo) j HCPL.out HCQL.out)
      have HCN := hid hcn
      have HML := hid hml
      have hjl : (j : Int) < 2 := by omega
      have HJ := hid hj
      clear hR hno hbl hbw hown hcn hml hj
      by_cases hask : askS ds n = i
      ·have HC2 := hid (HCN.out hask)
       have e5 : (askS ds n == (i : Int)) = true := by simp [hask]
       have hcut : cutsAt ds i n = n.cuts := by unfold cutsAt; rw [if_pos hask]
       rw [hcut] at HML
       obtain ⟨vcu, vki, hee, -, hcu, -⟩ := hn
       simp only [List.cons.injEq, and_true] at hee
       obtain ⟨-, -, hee, -⟩ := hee
       subst hee
       obtain ⟨cb, coff, ccap, hee, hcz, hcbl, -, hcc⟩ := hcu.open_ HC2.out.1
       injection hee with hee hee2 hee3
       subst hee hee3
       clear hee2
       have HCC := hid (fun (W : World) (hW : Below w.heap.size w W) j u (hu : (n.cuts.map (Value.int .i64))[j]? = some u) => (show W.cell? ⟨cb, coff + j, none⟩ = some u from by
        have hj : j < n.cuts.length := by
         rcases Nat.lt_or_ge j n.cuts.length with h | h
         ·exact h
         ·rw [List.getElem?_eq_none (by simpa using h)] at hu; cases hu
        rw [(hW.cell (p := ⟨cb, coff + j, none⟩) hcbl), hcc j hj, ← hu]
        simp [List.getD_eq_getElem?_getD, hj]))
       have HCLEN := hid (asc_lenA HC2.out.2 HBD.out.1)
       clear hcu hcc hcut hask hcz hcbl
       go_wp2_with fail
       have hw7 : Below w.heap.size w (wr.alloc (.cells #[.bool n.leaf, .int .i64 n.fact, .slice (some ⟨cb, coff, none⟩) n.cuts.length nucap, .slice NK n.kids.length nkcap] 55)) := HR.out.2.2.2.alloc HR.out.2.2.2.size _
       refine (HAX.out _ hw7).mono ?_
       rintro e w7 ⟨rfl, hb7⟩
       have hbx := (Blk.new wr 55 #[.bool n.leaf, .int .i64 n.fact, .slice (some ⟨cb, coff, none⟩) n.cuts.length nucap, .slice NK n.kids.length nkcap]).below hb7 (by simp)
       have b2 : w7.cell? ⟨wr.heap.size, 2, none⟩ = some (.slice (some ⟨cb, coff, none⟩) n.cuts.length nucap) := hbx.cell 2
       have b2l : wr.heap.size < w7.heap.size := hbx.lt
       have hr7 : Below wr.heap.size wr w7 := HBEL_trans (below1 wr _) hb7 (by simp)
       have hw7' := HR.out.2.2.2.trans (hr7.mono HR.out.2.2.2.size)
       have hown7 := own_keep HOWN.out (Keeps.of_below (Z := fun _ => True) hr7) (fun _ _ => trivial)
       have HW7 := hid (And.intro hr7 (And.intro hw7' hown7))
       clear r0 r1 r2 r3 rl f0r f0rl hb7 hbx hw7 hr7 hw7' hown7 HAX
       go_wp2_with (at_builtin; refine wpList_append1 rfl (.tmp 93) (.tmp 95) _ rfl Tryz.underlying28 Tryz.eInt rfl HW7.out.2.2 rfl (news := n.cuts.map (Value.int .i64)) (by simp) (HCC.out _ HW7.out.2.1) (by intro u hu; obtain ⟨z, -, rfl⟩ := List.mem_map.1 hu; rfl) (by have h1 := HCLEN.out; have h2 := HMLL.out; have h3 := HBD.out; unfold maxLen; omega) (by have h1 := HCLEN.out; have h2 := HMLL.out; have h3 := HBD.out; omega) (by have h1 := HW7.out.1.size; have h2 := HR.out.2.2.1.size; omega) ?_; intro v8 w8 ho8 hg8 hat8)
       have hk8 : Keeps (fun b => vl.ownBlock ≠ some b) w7 w8 := (Keeps.refl _ _).grown hg8 (fun k hk _ hz => hz hk)
       have hR8 := (HR.out.1.below HW7.out.1 HR.out.1.lt).keep hk8 HR.out.2.1
       have hbl7 : Below w5.heap.size w5 w7 := HR.out.2.2.1.trans (HW7.out.1.mono HR.out.2.2.1.size)
       have hbl8 : Below w5.heap.size w5 w8 := below_own hbl7 HW7.out.2.2 hg8 hbl7.size (Nat.le_refl _)
       have hno8 : v8.ownBlock ≠ some gR := fun e => by
        rcases hat8 with h | h
        ·exact HR.out.2.1 (h.symm.trans e)
        ·rw [h] at e
         injection e with e
         have h1 := HW7.out.1.size
         have h2 := HR.out.1.lt
         omega
       have hown8 : w8.ownsRow w5.heap.size 3 1 v8 (mixL fx.lo (cutsAt ds i p) (cutsAt ds i q) (j + 1)).length ((mixL fx.lo (cutsAt ds i p) (cutsAt ds i q) (j + 1)).map (.int .i64)) := by
        rw [HML.out, List.length_append, List.map_append]
        exact ho8
       have H8 := hid (And.intro hown8 (And.intro hR8 (And.intro hno8 hbl8)))
       clear hk8 hR8 hbl7 hbl8 hno8 hown8 ho8 hg8 hat8 b2 b2l
       go_wp2
       go_roundw
       case rel => exact ⟨j + 1, _, by omega, by go_num, rfl, H8.out.1, H8.out.2.1, H8.out.2.2.1, H8.out.2.2.2⟩
       case measure => simp [intOf]; omega
      ·have e5 : (askS ds n == (i : Int)) = false := by simp [hask]
       have hcut : cutsAt ds i n = [] := by unfold cutsAt; rw [if_neg hask]
       rw [hcut, List.append_nil] at HML
       clear hcut hask hn
       go_wp2_with fail
       have hw7 : Below w.heap.size w (wr.alloc (.cells #[.bool n.leaf, .int .i64 n.fact, .slice NU n.cuts.length nucap, .slice NK n.kids.length nkcap] 55)) := HR.out.2.2.2.alloc HR.out.2.2.2.size _
       refine (HAX.out _ hw7).mono ?_
       rintro e w7 ⟨rfl, hb7⟩
       have hr7 : Below wr.heap.size wr w7 := HBEL_trans (below1 wr _) hb7 (by simp)
       have hown7 := own_keep HOWN.out (Keeps.of_below (Z := fun _ => True) hr7) (fun _ _ => trivial)
       rw [← HML.out] at hown7
       have H8 := hid (And.intro hown7 (And.intro (HR.out.1.below hr7 HR.out.1.lt) (And.intro HR.out.2.1 (HR.out.2.2.1.trans (hr7.mono HR.out.2.2.1.size)))))
       clear r0 r1 r2 r3 rl f0r f0rl hb7 hw7 hr7 hown7 HAX
       go_wp2
       go_roundw
       case rel => exact ⟨j + 1, _, by have := HJ.out; omega, by go_num, rfl, H8.out.1, H8.out.2.1, H8.out.2.2.1, H8.out.2.2.2⟩
       case measure => simp [intOf]; omega
      --Q}
     ·have hz : mixL fx.lo (cutsAt ds i p) (cutsAt ds i q) j = fx.lo :: (cutsAt ds i p ++ cutsAt ds i q) := by unfold mixL; rw [if_pos (by omega), if_pos (by omega)]
      have HLIB := hid (show Lib.compact ((mixL fx.lo (cutsAt ds i p) (cutsAt ds i q) j).mergeSort fun a b => decide (a ≤ b)) = mixS ds p q from by
       rw [hz, mix_lib (hi := fx.hi) (fun v hv => ?_)]
       ·unfold mixS
        rw [HMN.out, HX5.out.2.2]; rfl
       ·rcases List.mem_append.1 hv with hv | hv
        ·unfold cutsAt at hv
         split at hv
         ·rename_i e; exact asc_mem (HCP.out e).2 v hv
         ·simp at hv
        ·unfold cutsAt at hv
         split at hv
         ·rename_i e; exact asc_mem (HCQ.out e).2 v hv
         ·simp at hv)
      have hzl := mixL_len (lo := fx.lo) j HCPL.out HCQL.out
      have HASC := hid (show ∃ rest, mixS ds p q = fx.lo :: rest ∧ ascFrom fx.lo fx.hi rest from by
       refine ⟨ascOf (cutsAt ds i p ++ cutsAt ds i q), ?_, ascOf_asc fun v hv => ?_⟩
       ·unfold mixS
        rw [HMN.out, HX5.out.2.2]; rfl
       ·rcases List.mem_append.1 hv with hv | hv
        ·unfold cutsAt at hv
         split at hv
         ·rename_i e; exact asc_mem (HCP.out e).2 v hv
         ·simp at hv
        ·unfold cutsAt at hv
         split at hv
         ·rename_i e; exact asc_mem (HCQ.out e).2 v hv
         ·simp at hv)
      have hpos : ∃ m, (mixL fx.lo (cutsAt ds i p) (cutsAt ds i q) j).length = m + 1 := ⟨_, rfl⟩
      generalize mixL fx.lo (cutsAt ds i p) (cutsAt ds i q) j = zs at *
      obtain ⟨m, hpos⟩ := hpos
      have hown' := hown
      rw [hpos] at hown'
      obtain ⟨g, c1, hv⟩ := own_form hown'
      rw [← hpos] at hv
      subst hv
      have hgw : w5.heap.size ≤ g := (hown.lt g rfl).1
      have HC5 := hid (sort_own hown (by omega))
      have HBL := hid (And.intro hbl hgw)
      have HLT := hid hlt
      clear hz hpos hown' hown hR hno hbl hgw hzl hj
      go_wp2_with fail
      refine HC5.out.mono ?_
      rintro e w1 ⟨rfl, hown2, hk2⟩
      have HB1 := hid (And.intro (below_keeps_ne HBL.out.1 hk2 HBL.out.2 HBL.out.1.size) HBL.out.2)
      have HC6 := hid (compact_own hown2)
      clear hown2 hk2 HC5 HBL
      go_wp2_with fail
      refine HC6.out.mono ?_
      rintro e w3 ⟨ys, hys, rfl, hown3, hk3⟩
      have hyz : ys = mixS ds p q := hys.trans HLIB.out
      have hbl3 := below_keeps_ne HB1.out.1 hk3 HB1.out.2 HB1.out.1.size
      subst hyz
      clear hys hk3 HC6 HB1 HLIB hlt
      have hfitS : ∀ v ∈ mixS ds p q, I64 v := fun v hv => by
       have hb := factOk_bounds HX5.out.2.1
       obtain ⟨rest, he, hasc⟩ := HASC.out
       rw [he] at hv
       rcases List.mem_cons.1 hv with rfl | hv
       ·constructor <;> omega
       ·have := asc_mem hasc v hv; constructor <;> omega
      have hslen : (mixS ds p q).length ≤ 1000001 := by
       obtain ⟨rest, he, hasc⟩ := HASC.out
       have h1 := asc_lenA hasc HBD.out.1
       have h2 := HBD.out.2
       rw [he, List.length_cons]; omega
      have hb3 : Below w.heap.size w w3 := HB5.out.2.trans (hbl3.mono HB5.out.2.size)
      have HV6 := hid (Ints.of_own hown3 hfitS (by omega)).live
      have HG3 := hid (And.intro (HM5.out.below hbl3) hb3)
      have hs3 := hbl3.size
      have HNEW := hid (fun b (hb : w.heap.size ≤ b) => (show c.kept F b from ⟨fun hf => by have := HH.out.mem.mkr.liveF b hf; omega, by have := HH.out.mem.lt.2; omega⟩))
      have hs5 := HB5.out.2.size
      clear hown3 hbl3 hb3 hfitS HB6 hs6 f0 f0l
      go_wp2
      go_loopw [19, 104] (fun vv ix wr => ∃ (kk : Nat) (vk : Value) (F' Z' : Zone), kk ≤ (mixS ds p q).length ∧ ix = .int .i64 kk ∧ vk = vv ∧ AnL c (.slice (some ⟨ab, aoff, none⟩) a.length acap) (.slice (some ⟨bb, boff, none⟩) b.length bcap) (.slice (some ⟨fb, foff, none⟩) ds.length dcap) w3 wr F Z (kidsA (bF ds a b k xi yi i) ((mixS ds p q).take kk) st).2 (kidsA (bF ds a b k xi yi i) ((mixS ds p q).take kk) st).1 vk F' Z') (fun _ ix _ => (mixS ds p q).length - (intOf ix).toNat)
      case atStart => exact ⟨0, _, F, Z, Nat.zero_le _, rfl, rfl, AnL.start HG3.out.1⟩
      case round =>
       obtain ⟨kk, vk, F', Z', hkk, rfl, rfl, hL⟩ := hrel
       rename World => wr
       have HKW := hid (show Keeps (c.kept F) w wr from (Keeps.of_below HG3.out.2).trans hL.kept)
       have HASKX := hid (fun v => ask_step HH.out.ga.good (v := v) HX.out.1 (i := (i : Int)) (by rw [HX.out.2.2.1, ← HMN.out]; exact Int.min_le_left _ _) (by have := HIL.out; omega))
       have HASKY := hid (fun v => ask_step HH.out.gb.good (v := v) HX.out.2.1 (i := (i : Int)) (by rw [HX.out.2.2.2, ← HMN.out]; exact Int.min_le_right _ _) (by have := HIL.out; omega))
       have HMEAS2 := hid (show ∀ v, ds.length - (min (askS ds (nAt a (stepS a xi i v))) (askS ds (nAt b (stepS b yi i v)))).toNat < k from fun v => by
        have h1 := (HASKX.out v).2
        have h2 := (HASKY.out v).2
        have h3 := HMEAS.out
        have h4 := HIL.out
        rw [HMN.out] at h3
        omega)
       have HKIDS := hid (fun l => kids_wA (f := (bF ds a b k xi yi i)) (B := 4000 + (ds.length - i) - 1) (fun v st => both_pre ds a b k _ _ st) (fun v st hs => by
        obtain ⟨a1, a2, a3⟩ := both_w HH.out.ga.good HH.out.gb.good k _ _ st (HASKX.out v).1 (HASKY.out v).1 (HMEAS2.out v) hs
        refine ⟨a1, a2, Nat.le_trans a3 ?_⟩
        have h1 := (HASKX.out v).2
        have h2 := (HASKY.out v).2
        have h4 := HIL.out
        omega) l st HH.out.wst)
       have hin : inn st.all ≤ 4000 := Nat.le_trans List.countP_le_length HAL.out
       have HIN := hid hin
       clear hin
       by_cases hlt : kk < (mixS ds p q).length
       ·skip
        --Q{
        obtain ⟨vb, voff, hve, hvz, -, hvc⟩ := HV6.out.at_ hlt
        injection hve with hve
        injection hve with hve1 hve2
        subst hve1 hve2
        have hvc' : wr.cell? ⟨g, 0 + kk, none⟩ = some (.int .i64 (mixS ds p q)[kk]) := hL.kept.cell (p := ⟨g, 0 + kk, none⟩) (HNEW.out g (by have := hvz.1; omega)) hvc
        rw [Nat.zero_add] at hvc'
        have hvl : g < wr.heap.size := lt_of_cell hvc'
        obtain ⟨AK, capk, hvk, -, -, -⟩ := Row.of_own hL.own (by decide)
        have hown := hL.own
        have hk6 := hL.kept.size
        have HL := hid hL
        have HCELL := hid (fun (W : World) (hW : Keeps (fun b => c.kept F' b ∧ vk.ownBlock ≠ some b) wr W) => (show W.cell? ⟨c.Gv, 0, none⟩ = some (.func (.func 69) #[] #[.pointer (some ⟨c.Dv, 0, none⟩), .pointer (some ⟨c.Av, 0, none⟩), .pointer (some ⟨c.Bv, 0, none⟩), .pointer (some ⟨c.Fv, 0, none⟩), .pointer (some ⟨c.Mv, 0, none⟩), .pointer (some ⟨c.Gv, 0, none⟩)]) ∧ W.cell? ⟨c.Av, 0, none⟩ = some (.slice (some ⟨ab, aoff, none⟩) a.length acap) ∧ W.cell? ⟨c.Bv, 0, none⟩ = some (.slice (some ⟨bb, boff, none⟩) b.length bcap) from by
         have hvar : ∀ b, c.var b → (fun b => c.kept F' b ∧ vk.ownBlock ≠ some b) b := fun b hb => ⟨hL.mem.var b hb, fun e => (hL.row b e).2.2 hb⟩
         exact ⟨(hL.mem.gv.keep hW (hvar _ (Or.inr (Or.inr (Or.inr (Or.inr (Or.inr rfl))))))).cell, (hL.mem.av.keep hW (hvar _ (Or.inr (Or.inl rfl)))).cell, (hL.mem.bv.keep hW (hvar _ (Or.inr (Or.inr (Or.inl rfl))))).cell⟩))
        subst hvk
        have hkkk : ((mixS ds p q).take (kk + 1)) = (mixS ds p q).take kk ++ [(mixS ds p q)[kk]] := List.take_succ_eq_append_getElem hlt
        have HKK := hid (show kidsA (bF ds a b k xi yi i) ((mixS ds p q).take (kk + 1)) st = ((kidsA (bF ds a b k xi yi i) ((mixS ds p q).take kk) st).1 ++ [((bF ds a b k xi yi i) (mixS ds p q)[kk] (kidsA (bF ds a b k xi yi i) ((mixS ds p q).take kk) st).2).1], ((bF ds a b k xi yi i) (mixS ds p q)[kk] (kidsA (bF ds a b k xi yi i) ((mixS ds p q).take kk) st).2).2) from by rw [hkkk, kidsA_snoc])
        have hki : (kk : Int) < ((mixS ds p q).length : Int) := by omega
        have hkl9 : (kidsA (bF ds a b k xi yi i) ((mixS ds p q).take kk) st).1.length = kk := by rw [kidsA_length, List.length_take]; omega
        have HKL9 := hid hkl9
        have HW5 := hid (HKIDS.out ((mixS ds p q).take kk))
        have HKB := hid (And.intro hkk hslen)
        clear hL hvc hkkk hvz hkl9 HKIDS
        generalize (kidsA (bF ds a b k xi yi i) ((mixS ds p q).take kk) st).1 = kids at *
        generalize (kidsA (bF ds a b k xi yi i) ((mixS ds p q).take kk) st).2 = st' at *
        generalize (mixS ds p q)[kk] = v at *
        go_wp2
        refine wp_region_S 15 (fun W => Keeps (fun b => c.kept F' b ∧ (Value.slice AK kids.length capk).ownBlock ≠ some b) wr W) (by kernel_rfl) ?_
        have hS : (fun W => Keeps (fun b => c.kept F' b ∧ (Value.slice AK kids.length capk).ownBlock ≠ some b) wr W) wr.drew := (Keeps.refl _ _).drew
        (refine wpAnyS_take0 (i := 0) (v := ?_) rfl (by kernel_rfl) (by kernel_rfl) (fun _ _ _ h => h) (Or.inl ⟨by rfl, ?_⟩) (Or.inr hS) ?_; rotate_left; (intro w hSw; clear hSw; go_simp; (try with_reducible rfl)); ((try simp only [Act.put]); (try simp only [nrA]); (try simp only [nrB]); (try simp only [nrC])))
        (refine wpAnyS_take (i := 1) (v := ?_) rfl (by kernel_rfl) (by kernel_rfl) (fun _ _ _ h => h) (Or.inl ⟨by rfl, ?_⟩) hS ?_; rotate_left; (intro w hSw; have hkw := hSw; obtain ⟨h0, h1, h2⟩ := HCELL.out _ hkw; go_simp; (try with_reducible rfl)); ((try simp only [Act.put]); (try simp only [nrA]); (try simp only [nrB]); (try simp only [nrC])))
        (refine wpAnyS_take (i := 2) (v := ?_) rfl (by kernel_rfl) (by kernel_rfl) (fun _ _ _ h => h) (Or.inl ⟨by rfl, ?_⟩) hS ?_; rotate_left; (intro w hSw; have hkw := hSw; obtain ⟨h0, h1, h2⟩ := HCELL.out _ hkw; go_simp; (try with_reducible rfl)); ((try simp only [Act.put]); (try simp only [nrA]); (try simp only [nrB]); (try simp only [nrC])))
        (refine wpAnyS_take0 (i := 3) (v := ?_) rfl (by kernel_rfl) (by kernel_rfl) (fun _ _ _ h => h) (Or.inl ⟨by rfl, ?_⟩) (Or.inr hS) ?_; rotate_left; (intro w hSw; clear hSw; go_simp; (try with_reducible rfl)); ((try simp only [Act.put]); (try simp only [nrA]); (try simp only [nrB]); (try simp only [nrC])))
        (refine wpAnyS_take0 (i := 4) (v := ?_) rfl (by kernel_rfl) (by kernel_rfl) (fun _ _ _ h => h) (Or.inl ⟨by rfl, ?_⟩) (Or.inr hS) ?_; rotate_left; (intro w hSw; clear hSw; go_simp; (try with_reducible rfl)); ((try simp only [Act.put]); (try simp only [nrA]); (try simp only [nrB]); (try simp only [nrC])))
        (refine wpAnyS_take0 (i := 5) (v := ?_) rfl (by kernel_rfl) (by kernel_rfl) (fun _ _ _ h => h) (Or.inl ⟨by rfl, ?_⟩) (Or.inr hS) ?_; rotate_left; (intro w hSw; clear hSw; go_simp; (try with_reducible rfl)); ((try simp only [Act.put]); (try simp only [nrA]); (try simp only [nrB]); (try simp only [nrC])))
        (refine wpAnyS_take (i := 7) (v := ?_) rfl (by kernel_rfl) (by kernel_rfl) (fun _ _ _ h => h) (Or.inl ⟨by rfl, ?_⟩) hS ?_; rotate_left; (intro w hSw; have hkw := hSw; obtain ⟨h0, h1, h2⟩ := HCELL.out _ hkw; go_simp; (try with_reducible rfl)); ((try simp only [Act.put]); (try simp only [nrA]); (try simp only [nrB]); (try simp only [nrC])))
        (refine wpAnyS_take0 (i := 8) (v := ?_) rfl (by kernel_rfl) (by kernel_rfl) (fun _ _ _ h => h) (Or.inl ⟨by rfl, ?_⟩) (Or.inr hS) ?_; rotate_left; (intro w hSw; clear hSw; go_simp; (try with_reducible rfl)); ((try simp only [Act.put]); (try simp only [nrA]); (try simp only [nrB]); (try simp only [nrC])))
        (refine wpAnyS_take0 (i := 9) (v := ?_) rfl (by kernel_rfl) (by kernel_rfl) (fun _ _ _ h => h) (Or.inl ⟨by rfl, ?_⟩) (Or.inr hS) ?_; rotate_left; (intro w hSw; clear hSw; go_simp; (try with_reducible rfl)); ((try simp only [Act.put]); (try simp only [nrA]); (try simp only [nrB]); (try simp only [nrC])))
        (refine wpAnyS_take0 (i := 10) (v := ?_) rfl (by kernel_rfl) (by kernel_rfl) (fun _ _ _ h => h) (Or.inl ⟨by rfl, ?_⟩) (Or.inr hS) ?_; rotate_left; (intro w hSw; clear hSw; go_simp; (try with_reducible rfl)); ((try simp only [Act.put]); (try simp only [nrA]); (try simp only [nrB]); (try simp only [nrC])))
        refine wpAnyS_one (i := 6) (by kernel_rfl) rfl rfl (fun K hK => ?_)
        go_wp2_with fail
        refine (step_any Zn (.slice (some ⟨ab, aoff, none⟩) a.length acap) a ds xi i v wr.drew (HH.out.na.keep ((HKW.out.mono fun b _ hb => (HH.out.off b hb).1).drew)) HH.out.ga.good HX.out.1).mono ?_
        rintro e x1 ⟨rfl, hb1⟩
        have hb1' : Below wr.heap.size wr x1 := ((Below.refl wr.heap.size wr).drew).trans hb1
        refine hK _ _ (Or.inr (.of_below hb1')) ?_
        clear hK K hb1 hS
        ((try simp only [Act.put]); (try simp only [nrA]); (try simp only [nrB]); (try simp only [nrC]))
        refine wpAnyS_one (i := 11) (by kernel_rfl) rfl rfl (fun K hK => ?_)
        go_wp2_with fail
        refine (step_any Zn (.slice (some ⟨bb, boff, none⟩) b.length bcap) b ds yi i v x1 (HH.out.nb.keep ((HKW.out.mono fun b _ hb => (HH.out.off b hb).1).trans (.of_below hb1'))) HH.out.gb.good HX.out.2.1).mono ?_
        rintro e w7 ⟨rfl, hb2⟩
        have hb7 : Below wr.heap.size wr w7 := hb1'.trans (hb2.mono hb1'.size)
        have hS7 : (fun W => Keeps (fun b => c.kept F' b ∧ (Value.slice AK kids.length capk).ownBlock ≠ some b) wr W) w7 := .of_below hb7
        have HCALL := hid (HIH.out _ _ w7 st' F' Z' (HASKX.out v).1 (HASKY.out v).1 (HMEAS2.out v) (HH.out.kid (Keeps.of_below HG3.out.2) HL.out hb7 HW5.out.1 (by have h1 := HW5.out.2.2; have h2 := HIN.out; have h3 := HIL.out; omega)))
        have HB7 := hid hb7
        refine hK _ _ (Or.inr hS7) ?_
        clear hK K hb1' hb2 hb7
        ((try simp only [Act.put]); (try simp only [nrA]); (try simp only [nrB]); (try simp only [nrC]))
        refine wpAnyS_one (i := 12) (by kernel_rfl) rfl rfl (fun K hK => ?_)
        go_wp2_with fail
        refine HCALL.out.mono ?_
        intro e w8 hp8
        have hS8 : Keeps (fun b => c.kept F' b ∧ (Value.slice AK kids.length capk).ownBlock ≠ some b) wr w8 := hS7.trans (hp8.2.2.mono fun b _ hb => hb.1)
        have hown8 : w8.ownsRow w3.heap.size 3 1 (.slice AK kids.length capk) kids.length (kids.map (.int .i64)) := own_keep (own_keep HL.out.own (Keeps.of_below (Z := fun _ => True) HB7.out) (fun _ _ => trivial)) hp8.2.2 (fun k hk => (HL.out.row k hk).1)
        have hw68 : w3.heap.size ≤ w8.heap.size := Nat.le_trans hk6 (Nat.le_trans HB7.out.size hp8.2.2.size)
        have HP8 := hid hp8
        obtain rfl := hp8.1
        refine hK _ _ (Or.inr hS8) ?_
        clear hK K hp8
        ((try simp only [Act.put]); (try simp only [nrA]); (try simp only [nrB]); (try simp only [nrC]))
        have HKK2 := hid (show (bF ds a b k xi yi i) v st' = bothS ds a b k (stepS a xi i v) (stepS b yi i v) st' from rfl)
        rw [← HKK2.out] at HP8 ⊢
        generalize (bF ds a b k xi yi i) v st' = r at *
        refine wpAnyS_one (i := 13) (by kernel_rfl) rfl rfl (fun K hK => ?_)
        go_wp2_with fail
        refine hK _ _ (Or.inr (hS8.alloc _)) ?_
        clear hK K
        ((try simp only [Act.put]); (try simp only [nrA]); (try simp only [nrB]); (try simp only [nrC]))
        refine wpAnyS_one (i := 14) (by kernel_rfl) rfl rfl (fun K hK => ?_)
        refine oper_append1 (.tmp 108) (.tmp 121) _ rfl Tryz.underlying28 Tryz.eInt rfl (hown8.alloc _) rfl (news := [.int .i64 r.1]) rfl (one_cell (by simp)) (by simp [Value.oneCell']) (by have := HKL9.out; have := HKB.out; unfold maxLen; omega) (by have := HKL9.out; have := HKB.out; omega) (by simp; omega) ?_
        intro v5 w10 ho10 hg10 hat10
        have HST := hid (HL.out.step HB7.out HP8.out hg10 ho10 hat10)
        refine hK _ _ (Or.inr ((hS8.alloc _).grown hg10 (fun k hk _ hz => hz.2 hk))) ?_
        clear hK K hg10 ho10 hat10
        ((try simp only [Act.put]); (try simp only [nrA]); (try simp only [nrB]); (try simp only [nrC]))
        refine wpAnyS_one (i := 15) (by kernel_rfl) rfl rfl (fun K hK => ?_)
        go_wp2_with fail
        refine hK _ _ (Or.inl rfl) ?_
        clear hK K
        ((try simp only [Act.put]); (try simp only [nrA]); (try simp only [nrB]); (try simp only [nrC]))
        refine wpAnyS_done (by kernel_rfl) ?_ _
        go_wp2
        go_roundw
        case rel =>
         obtain ⟨F2, Z2, hL2⟩ := HST.out
         refine ⟨kk + 1, _, F2, Z2, by omega, by go_num, rfl, ?_⟩
         rw [HKK.out]
         exact hL2
        case measure => simp [intOf]; omega
        --Q}
       ·obtain rfl : kk = (mixS ds p q).length := by omega
        rw [List.take_length] at hL
        have hlk := kidsA_length (f := (bF ds a b k xi yi i)) (mixS ds p q) st
        have hW := HKIDS.out (mixS ds p q)
        have hne : (kidsA (bF ds a b k xi yi i) (mixS ds p q) st).1 ≠ [] := kidsA_ne (by simp [mixS])
        have HEND2 := hid (show bothS ds a b (k + 1) xi yi st = ((innerS (kidsA (bF ds a b k xi yi i) (mixS ds p q) st).2.all i (mixS ds p q) (kidsA (bF ds a b k xi yi i) (mixS ds p q) st).1).1, ⟨(innerS (kidsA (bF ds a b k xi yi i) (mixS ds p q) st).2.all i (mixS ds p q) (kidsA (bF ds a b k xi yi i) (mixS ds p q) st).1).2, kvISet (kidsA (bF ds a b k xi yi i) (mixS ds p q) st).2.done ((xi : Int), (yi : Int)) (innerS (kidsA (bF ds a b k xi yi i) (mixS ds p q) st).2.all i (mixS ds p q) (kidsA (bF ds a b k xi yi i) (mixS ds p q) st).1).1⟩) from HEND.out.trans (by unfold newA; rw [HMN.out]))
        clear HKIDS HEND HMEAS2 HASKX HASKY
        generalize (kidsA (bF ds a b k xi yi i) (mixS ds p q) st).1 = kids at *
        generalize (kidsA (bF ds a b k xi yi i) (mixS ds p q) st).2 = st' at *
        have hall : st'.all.length ≤ 5000 := by
         have h1 := hW.1.tab.len
         have h2 := hW.2.2
         have h3 := HIN.out
         have h4 := validDom_len HH.out.ga.dom
         omega
        have hkfit : ∀ q ∈ kids, I64 q := fun q hq => by
         have := hW.2.1 q hq
         have h1 := this.1
         have h2 := this.2
         constructor <;> omega
        have hgk := HKW.out
        have hs6 := hL.kept.size
        have HINNER := hid (inner_any c.M st'.all F' Z' (fun b => (w.heap.size ≤ b ∧ b < w3.heap.size) ∨ vk.ownBlock = some b) (i : Int) (.slice (some ⟨g, 0, none⟩) (mixS ds p q).length c1) vk (mixS ds p q) kids wr hL.mem.mkr
         ((HV6.out.keep (hL.kept.mono fun b _ hb => HNEW.out b (Nat.le_trans hs5 hb.1))).mono fun b hb => Or.inl ⟨Nat.le_trans hs5 hb.1, hb.2⟩) ((ints_own hL.own hkfit (by omega)).mono fun b hb => Or.inr hb)
         (fun b hb => by
          rcases hb with hb | hb
          ·exact (keptA_step hL.hF (HNEW.out b hb.1) hb.2 (Nat.le_refl _)).1
          ·exact (hL.row b hb).1.1)
         (by have h4 := validDom_len HH.out.ga.dom; have h5 := HIL.out; constructor <;> omega) hlk.symm hne (by omega) (by omega) (HH.out.tabAt hgk))
        obtain ⟨AK, capk, rfl, -, -, -⟩ := Row.of_own hL.own (by decide)
        have m0 := hL.mem.mv.cell
        have m0l := hL.mem.mv.lt
        have HL := hid hL
        clear hL hlk hW hne hkfit hgk hall
        generalize innerS st'.all i (mixS ds p q) kids = o at *
        go_wp2_with fail
        refine HINNER.out.mono ?_
        intro e w8 hp8
        obtain ⟨rfl, ⟨F2, Z2, hm2, hF2, hZ2⟩, hk8⟩ := hp8
        have hg8 := AnW.made HL.out.mem (Below.refl _ _) hm2 hF2 hZ2 hk8
        have n0 := hg8.dv.cell
        have n0l := hg8.dv.lt
        have HG8 := hid hg8
        have HD8 := hid hg8.done
        have HK8 := hid (And.intro hk8 (And.intro hF2 hZ2))
        clear hg8 hm2 hF2 hZ2 hk8 HINNER m0 m0l
        go_wp2_with (at_mapUpdate; refine wpList_mapStore rfl (.tmp 129) (.tmp 132) _ rfl Tryz.keyP (e := 3) Tryz.underlying107 rfl (HD8.out) ((xi : Int), (yi : Int)) rfl ?_; intro w9 hm9 hk9 hsz9 hce9 hfr9)
        have hm9' : MapIs encP w9 c.db (kvA (kvISet st'.done ((xi : Int), (yi : Int)) o.1)) := by rw [← kvA_set]; exact hm9
        have HE := hid (show AnPost c (.slice (some ⟨ab, aoff, none⟩) a.length acap) (.slice (some ⟨bb, boff, none⟩) b.length bcap) (.slice (some ⟨fb, foff, none⟩) ds.length dcap) w F Z (bothS ds a b (k + 1) xi yi st) (.returned (.int .i64 o.1)) w9 from by
         rw [HEND2.out]
         have hs8 := HK8.out.1.size
         have h6 := HG3.out.2.size
         refine ⟨rfl, ⟨F2, Z2, HG8.out.setDone hm9' hk9, fun b hb => ?_, fun b hb => ?_⟩, ⟨hk9.os.trans (HK8.out.1.os.trans HKW.out.os), hk9.tape.trans (HK8.out.1.tape.trans HKW.out.tape), hk9.output.trans (HK8.out.1.output.trans HKW.out.output), by have := HKW.out.size; omega, fun k hk hz => ?_⟩⟩
         ·rcases HK8.out.2.1 b hb with hb | hb
          ·rcases HL.out.hF b hb with hb | hb
           ·exact Or.inl hb
           ·exact Or.inr (by omega)
          ·exact Or.inr (by omega)
         ·rcases HK8.out.2.2 b hb with hb | hb
          ·rcases HL.out.hZ b hb with hb | hb
           ·exact Or.inl hb
           ·exact Or.inr (by omega)
          ·exact Or.inr (by omega)
         ·have hs9 := HKW.out.size
          rw [hk9.block k (by omega) hz.2, HK8.out.1.block k (by omega) (keptA_step HL.out.hF hz hk (by omega)).1, HKW.out.block k hk hz])
        clear hm9 hm9' hk9 hsz9 hce9 hfr9 n0 n0l
        go_wp2
        go_ret
        exact HE.out
/-- The closure of diagram.And. -/
theorem both_any : ∀ k : Nat, BothIH c (.slice AA a.length acap) (.slice AB b.length bcap) (.slice D ds.length dcap) a b ds Zn B0 k := by
 intro k
 induction k with
 | zero => intro x y w st F Z _ _ hm _; omega
 | succ k ih =>
  intro x y w st F Z hx hy hm h
  cases hk : kvI st.done (x, y) with
  | some r =>
   have e : bothS ds a b (k + 1) x y st = (r, st) := by unfold bothS; rw [hk]
   rw [e]
   exact both_known x y h hk
  | none => exact both_new k ih x y hm h hx hy hk
end
end Go.Proofs.YtcigjmlileckhaaGreatDoor
