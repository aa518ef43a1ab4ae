/- What all rows of this seat share: how its types are laid out; what the listed variables give; the arguments opened; what a law's row owes behind the call. -/
import Derived.Test.YtcigjmlileckhaaGreatDoorM1
import Derived.Test.YtcigjmlileckhaaGreatDoorM3
import Derived.Test.YtcigjmlileckhaaGreatDoorRows
import Derived.ProofKit
import Derived.LaidMore
import Derived.OpenShut
import Derived.Stop.Joined
import Derived.Lib.LaidTab
import Derived.LaidSub
/- What all rows of this seat share: how its types are laid out; what the listed variables give; the arguments opened; what a law's row owes behind the call. -/
namespace Go.Proofs.YtcigjmlileckhaaGreatDoor
open Go.ChangeShapes Go.WideShapes Go.ChangeAt Go.RowKit
theorem own : ownKnob Tryz.prog.godebug = none := by kernel_rfl
theorem laidOut : laidOutB Tryz.prog = true := by kernel_rfl
set_option maxRecDepth 100000 in
theorem tys : Tys Tryz.prog 3 9 4 28 82 25 55 32 24 22 where
 int := Tryz.underlying3
 intc := by kernel_rfl
 intb := by kernel_rfl
 str := Tryz.underlying9
 strc := by kernel_rfl
 bool := Tryz.underlying4
 boolc := by kernel_rfl
 ints := Tryz.underlying28
 intsc := by kernel_rfl
 fact := ⟨_, _, _, _, Tryz.underlying82, ⟨rfl, rfl⟩, ⟨rfl, rfl⟩, ⟨rfl, rfl⟩, rfl, rfl⟩
 factc := by kernel_rfl
 factb := by kernel_rfl
 facts := Tryz.underlying25
 factsc := by kernel_rfl
 node := ⟨_, _, _, _, Tryz.underlying55, ⟨rfl, rfl⟩, ⟨rfl, rfl⟩, ⟨rfl, rfl⟩, rfl, rfl⟩
 nodec := by kernel_rfl
 nodeb := by kernel_rfl
 nodes := Tryz.underlying32
 nodesc := by kernel_rfl
 fm := ⟨_, _, _, _, _, Tryz.underlying24, ⟨rfl, rfl⟩, ⟨rfl, rfl⟩, ⟨rfl, rfl⟩, ⟨rfl, rfl⟩, rfl, rfl⟩
 fmc := by kernel_rfl
 fmb := by kernel_rfl
 fms := Tryz.underlying22
 fmsc := by kernel_rfl
abbrev laid5 : List (String × DataW Unit) := [("math/bits.deBruijn32tab", Rows.laid_math_bits_deBruijn32tab), ("math/bits.deBruijn64tab", Rows.laid_math_bits_deBruijn64tab), ("internal/strconv.uint64pow10", Rows.laid_internal_strconv_uint64pow10), ("strconv.ErrRange", Rows.laid_strconv_ErrRange), ("strconv.ErrSyntax", Rows.laid_strconv_ErrSyntax)]
/-- The door's own heap meets the condition. -/
theorem door_met (os : Os) (args : Array Value) : laidMetH Tryz.prog laid5 ((World.doorLaid Tryz.prog 62 os).forCall (fun _ _ => 0) ⟨#[], args, []⟩).memory :=
 laidMetH_of_parts3 (fuel := 8) (laidMet_of_run' 8 (by kernel_rfl) (by kernel_rfl)) (by kernel_rfl) (by kernel_rfl)
/-- What the condition gives the walks: the table of powers of ten. -/
theorem tab_of_laid {W : World} (h : laidMetH Tryz.prog laid5 W) : TabB W.heap.size W := by
 rw [MakeChecks.laidMetH_plain _ _ _ (by kernel_rfl)] at h
 have h1 := laidMet.filter (fun x => x.1 == "internal/strconv.uint64pow10") h
 have e : laid5.filter (fun x => x.1 == "internal/strconv.uint64pow10") = [("internal/strconv.uint64pow10", Lib.tabData .u64 Lib.pow10Tab)] := by rfl
 rw [e] at h1
 exact Lib.tabBelow_of_tabIs (Lib.tabIs_of_head (g := 0) (t := 192) (e := 169) (n := 20) (by kernel_rfl) (by kernel_rfl) Tryz.underlying192 Tryz.underlying169 (by kernel_rfl) (by kernel_rfl) h1)
section args
variable {H : Type} {enc : TypeId × Value → H} {W : World} {v : Value} {d : DataW H} {ps : List MemPlace} {base : Nat}
set_option maxRecDepth 100000 in
theorem rd_arg {ts : List TypeId} {ds : List (DataW H)} (h : (DataW.weightsEach Tryz.prog ts ds).all (· ≤ reachBytes) = true) {j : Nat} {t : TypeId} {d : DataW H} (ht : ts[j]? = some t) (hd : ds[j]? = some d) : RdFits Tryz.prog t d :=
 List.all_eq_true.2 fun n hn => List.all_eq_true.1 h n (DataW.weights_mem_each ht hd n hn)
set_option maxRecDepth 100000 in
theorem arg_fm (hv : Value.okWide Tryz.prog W .any base 24 v) (ht : DataW.Trod enc Tryz.prog W 0 (fun _ => true) true 24 v d ps) (hw : RdFits Tryz.prog 24 d) : ∃ f cs, v = .agg cs.toArray ∧ FmR (Here W) W f cs := by
 obtain ⟨cs, rfl, hsz⟩ := okWide_struct Tryz.underlying24 hv
 obtain ⟨fuel, hf⟩ := ht
 obtain ⟨f, h⟩ := op_fm tys fuel cs.toList _ (by rw [Array.length_toList, hsz, tys.fmc]) hf hw
 exact ⟨f, cs.toList, by simp, h⟩
set_option maxRecDepth 100000 in
theorem rd_one_field {t : TypeId} {f0 : Field} (hu : Tryz.prog.underlying t = some (.struct #[f0])) (ho : f0.offset = 0) (hc : Tryz.prog.cellsOf t = 1) (hc0 : Tryz.prog.cellsOf f0.type = 1) (hv : Value.okWide Tryz.prog W .any base t v) (ht : DataW.Trod enc Tryz.prog W 0 (fun _ => true) true t v d ps) (hw : RdFits Tryz.prog t d) :
  ∃ vd m y, v = .agg #[vd] ∧ DataW.trod enc Tryz.prog W 0 (fun _ => true) true m f0.type [vd] = some y ∧ RdFits Tryz.prog f0.type y.1 := by
 obtain ⟨cs, rfl, hsz⟩ := okWide_struct hu hv
 obtain ⟨fuel, hf⟩ := ht
 obtain ⟨-, hp⟩ := op_field hu hf hw
 obtain ⟨l⟩ := cs
 rw [hc] at hsz
 match l, hsz with
 | [c], _ =>
  obtain ⟨m, y, -, q, w⟩ := hp 0 f0 rfl
  rw [ho, hc0] at q
  exact ⟨c, m, y, rfl, q, w⟩
set_option maxRecDepth 100000 in
theorem arg_dom (hv : Value.okWide Tryz.prog W .any base 27 v) (ht : DataW.Trod enc Tryz.prog W 0 (fun _ => true) true 27 v d ps) (hw : RdFits Tryz.prog 27 d) : ∃ vd ds, v = .agg #[vd] ∧ Facts (Here W) W vd ds := by
 obtain ⟨vd, m, y, rfl, q, w⟩ := rd_one_field Tryz.underlying27 rfl (by kernel_rfl) (by kernel_rfl) hv ht hw
 obtain ⟨ds, h⟩ := op_facts tys q w
 exact ⟨vd, ds, rfl, h⟩
set_option maxRecDepth 100000 in
theorem arg_dia (hv : Value.okWide Tryz.prog W .any base 34 v) (ht : DataW.Trod enc Tryz.prog W 0 (fun _ => true) true 34 v d ps) (hw : RdFits Tryz.prog 34 d) : ∃ vn ns, v = .agg #[vn] ∧ Nodes (Here W) W vn ns := by
 obtain ⟨vd, m, y, rfl, q, w⟩ := rd_one_field Tryz.underlying34 rfl (by kernel_rfl) (by kernel_rfl) hv ht hw
 obtain ⟨ns, h⟩ := op_nodes tys q w
 exact ⟨vd, ns, rfl, h⟩
set_option maxRecDepth 100000 in
theorem arg_case (hv : Value.okWide Tryz.prog W .any base 29 v) (ht : DataW.Trod enc Tryz.prog W 0 (fun _ => true) true 29 v d ps) (hw : RdFits Tryz.prog 29 d) : ∃ xs, Ints (Here W) W v xs := by
 obtain ⟨A, n, c, rfl⟩ := okWide_slice Tryz.underlying29 hv
 obtain ⟨fuel, hf⟩ := ht
 obtain ⟨v', xs, e, h⟩ := op_ints Tryz.underlying29 tys.int tys.intc tys.intb hf hw
 obtain rfl : Value.slice A n c = v' := by simpa [Value.cells] using e
 exact ⟨xs, h⟩
end args
theorem trodAll_below {H : Type} {enc : TypeId × Value → H} {W W' : World} (hb : Below W.heap.size W W') : ∀ {ts : List TypeId} {vs : List Value} {ds : List (DataW H)} {p : List MemPlace}, (∀ t ∈ ts, Tryz.prog.readableRec t = true ∧ t < Tryz.prog.types.size) →
  DataW.TrodAll enc Tryz.prog W 0 (fun _ => true) true ts vs ds p → (∀ x ∈ p, x.block < W.heap.size) → DataW.TrodAll enc Tryz.prog W' 0 (fun b => decide (b < W.heap.size)) true ts vs ds p
 | [], [], [], _, _, h, _ => h
 | t :: ts, v :: vs, d :: ds, _, hr, ⟨p, q, h1, h2, e⟩, hl => by
  subst e
  exact ⟨p, q, Below.trod laidOut (hr t (by simp)).1 (hr t (by simp)).2 h1 hb (fun x hx => hl x (by simp [hx])), trodAll_below hb (fun t ht => hr t (by simp [ht])) h2 (fun x hx => hl x (by simp [hx])), rfl⟩
/-- What a law's row owes behind the call. -/
theorem law_post {H : Type} {enc : TypeId × Value → H} {fn : Func} {s : ChangeSpec} {W W' : World} {args : Array Value} {ds : List (DataW H)} {p : List MemPlace} (hW : DataW.Whole enc Tryz.prog fn.params.toList s.vars false W args.toList ds [] p)
  (hA : DataW.TrodAll enc Tryz.prog W 0 (fun _ => true) true fn.params.toList args.toList ds p) (hsp : s.fn H (ds ++ []) = { results := [.lit (.bool true)], args := ds }) (hv : s.vars = []) (hr : fn.params.toList.all (fun t => Tryz.prog.readableRec t && decide (t < Tryz.prog.types.size)) = true)
  (hres : fn.resultTypes = #[4]) (hb : Below W.heap.size W W') : s.post enc Tryz.prog fn false true false false W args (.bool true) W' := by
 refine ⟨ds, [], p, [], p, [], hW, ?_, ?_, ?_, hb.frame _, fun h => by cases h⟩
 ·rw [hsp, hres]; exact trodAll_mk1 (shut_bool Tryz.underlying4 true)
 ·rw [hsp]; exact trodAll_below hb (fun t ht => by have := List.all_eq_true.1 hr t ht; simpa using this) hA hW.lt
 ·rw [hsp, hv]; rfl
end Go.Proofs.YtcigjmlileckhaaGreatDoor
