/- Walks of slices.IndexFunc and slices.ContainsFunc at structs. Walks of package fact: Index, Fits, Least. -/
import Derived.Test.YtcigjmlileckhaaGreatDoorProg
import Derived.Test.YtcigjmlileckhaaGreatDoorM1
import Derived.Test.YtcigjmlileckhaaGreatDoorM2
import Derived.WalkSpells
import Derived.WalkLawsBesides
import Derived.Maps.Own
import Derived.Deep.QuietTactic
import Derived.BigQuiet
import Derived.Shelf.Abstract
/- W1 -/
namespace Go.Proofs.YtcigjmlileckhaaGreatDoor
open Go.RowKit
set_option maxRecDepth 100000 in
set_option maxHeartbeats 1000000 in
theorem isName_any (s : ByteArray) (hs : s.size ≤ 140737488355328) (w : World) :
  Calls Tryz.prog 48 #[.string s] w fun e w' => e = .returned (.bool (isName s.data.toList)) ∧ w = w' := by
 go_enter Tryz.func48, Tryz.ntmps48
 go_wp2
 go_loop [9] (fun i => ∃ k : Nat, k ≤ s.size ∧ i = .int .i64 k ∧ Hid (nameTo s.data.toList k)) (fun i => s.size - (intOf i).toNat)
 case atStart => exact ⟨0, Nat.zero_le _, rfl, nameTo_zero _⟩
 case round =>
  obtain ⟨k, hk, rfl, hn⟩ := hrel
  by_cases hlt : k < s.size
  ·have hat := nameAt_eq hlt
   have HAT := hid hat
   clear hat
   repeat' (first | (go_big_may; fail) | ((with_reducible apply wpList_isG); rfl; first | ((with_reducible apply wpList_gen); rfl; rfl; rfl; exact NotVar.app; intro bb hbb; (simp only [Act.put]; (try simp only [List.setIfInBounds_toArray]); (try simp only [List.set_cons_succ]); (try simp only [List.set_cons_zero]))) | ((with_reducible apply wpList_gen2); rfl; rfl; rfl; exact NotVar.app; intro bb hbb; (simp only [Act.put]; (try simp only [List.setIfInBounds_toArray]); (try simp only [List.set_cons_succ]); (try simp only [List.set_cons_zero]))) | ((with_reducible apply wpList_gconst); rfl; rfl; rfl; simp only []) | ((with_reducible apply wpList_gskip); rfl; rfl; (first | exact Or.inl rfl | exact Or.inr rfl); (simp only [Act.put]; (try simp only [List.setIfInBounds_toArray]); (try simp only [List.set_cons_succ]); (try simp only [List.set_cons_zero]))) | ((with_reducible apply wpList_ggmove); rfl; rfl; rfl; rfl; exact (by first | exact Wants.bt _ | exact Wants.bf _ | exact Wants.gt _ _ | exact Wants.gf _ _); rfl; (simp only [Act.put]; (try simp only [List.setIfInBounds_toArray]); (try simp only [List.set_cons_succ]); (try simp only [List.set_cons_zero]))) | ((with_reducible apply wpList_gmove); rfl; rfl; rfl; rfl; exact (by first | exact Wants.bt _ | exact Wants.bf _ | exact Wants.gt _ _ | exact Wants.gf _ _); rfl; (simp only [Act.put]; (try simp only [List.setIfInBounds_toArray]); (try simp only [List.set_cons_succ]); (try simp only [List.set_cons_zero]))) | ((with_reducible apply wpList_isGPick); rfl; first | ((with_reducible apply wpList_gpick_and); rfl; rfl; rfl; exact (by first | exact Wants.bt _ | exact Wants.bf _ | exact Wants.gt _ _ | exact Wants.gf _ _); rfl; rfl; rfl; rfl; (simp only [Act.put]; (try simp only [List.setIfInBounds_toArray]); (try simp only [List.set_cons_succ]); (try simp only [List.set_cons_zero]))) | ((with_reducible apply wpList_gpick_or); rfl; rfl; rfl; exact (by first | exact Wants.bt _ | exact Wants.bf _ | exact Wants.gt _ _ | exact Wants.gf _ _); rfl; rfl; rfl; rfl; (simp only [Act.put]; (try simp only [List.setIfInBounds_toArray]); (try simp only [List.set_cons_succ]); (try simp only [List.set_cons_zero])))) | ((with_reducible apply wpList_guarded); rfl; rfl; rfl; exact (by first | exact Wants.bt _ | exact Wants.bf _ | exact Wants.gt _ _ | exact Wants.gf _ _); (intro hG; (try simp only [Bool.and_eq_true] at hG); (try simp only [Bool.not_eq_true'] at hG); (first | subst hG | (obtain ⟨h1, h2⟩ := hG; subst h1; subst h2) | (obtain ⟨⟨h1, h2⟩, h3⟩ := hG; subst h1; subst h2; subst h3)); (repeat (first | simp only [gv_true] | simp only [gv_false] | simp only [Bool.not_true] | simp only [Bool.not_false] | simp only [Bool.true_and] | simp only [Bool.false_and] | simp only [Bool.and_self])); go_simp; with_reducible rfl); (simp only [Act.put]; (try simp only [List.setIfInBounds_toArray]); (try simp only [List.set_cons_succ]); (try simp only [List.set_cons_zero]))) | ((with_reducible apply wpList_gsplit); rfl; rfl; rfl; all_goals (intro hb; subst hb; (repeat (first | simp only [gv_true] | simp only [gv_false] | simp only [Bool.not_true] | simp only [Bool.not_false] | simp only [Bool.true_and] | simp only [Bool.false_and] | simp only [Bool.and_self])))) | ((with_reducible apply wpList_gsplit2); rfl; rfl; rfl; all_goals (intro hb; (first | subst hb | ((try simp only [Bool.and_eq_true] at hb); (try simp only [Bool.not_eq_true'] at hb); obtain ⟨h1, h2⟩ := hb; subst h1; subst h2)); (repeat (first | simp only [gv_true] | simp only [gv_false] | simp only [Bool.not_true] | simp only [Bool.not_false] | simp only [Bool.true_and] | simp only [Bool.false_and] | simp only [Bool.and_self]))))) | ((with_reducible apply wpList_isPick); rfl; rfl; first | ((with_reducible apply wpList_pick_t); rfl; rfl; rfl; rfl; (simp only [Act.put]; (try simp only [List.setIfInBounds_toArray]); (try simp only [List.set_cons_succ]); (try simp only [List.set_cons_zero]))) | ((with_reducible apply wpList_pick_f); rfl; rfl; rfl; rfl; (simp only [Act.put]; (try simp only [List.setIfInBounds_toArray]); (try simp only [List.set_cons_succ]); (try simp only [List.set_cons_zero]))) | ((with_reducible apply wpList_pick_and); rfl; rfl; rfl; rfl; rfl; (simp only [Act.put]; (try simp only [List.setIfInBounds_toArray]); (try simp only [List.set_cons_succ]); (try simp only [List.set_cons_zero]))) | ((with_reducible apply wpList_pick_or); rfl; rfl; rfl; rfl; rfl; (simp only [Act.put]; (try simp only [List.setIfInBounds_toArray]); (try simp only [List.set_cons_succ]); (try simp only [List.set_cons_zero])))) | go_values | go_guarded | go_step | go_upon | go_back | dsimp only)
   ·go_ret
    refine ⟨ret_bool (b := isName s.data.toList) ?_, rfl⟩
    rw [isName_false (k := k) (by simpa using hlt)]
    rw [HAT.out]
    simp only [Hid] at *
    subst_vars
    simp only [decide_eq_false_iff_not]
    simp at *
    omega
   ·go_round
    case rel =>
     refine ⟨k + 1, by omega, by go_num, nameTo_succ hn.out ?_⟩
     rw [HAT.out]
     simp only [Hid] at *
     subst_vars
     simp only [decide_eq_true_eq]
     simp at *
     omega
    case measure => simp [intOf]; omega
  ·obtain rfl : k = s.size := by omega
   have he := isName_all (l := s.data.toList) (by simpa using hn.out)
   have HE := hid he
   clear he hn
   repeat' (first | (go_big_may; fail) | ((with_reducible apply wpList_isG); rfl; first | ((with_reducible apply wpList_gen); rfl; rfl; rfl; exact NotVar.app; intro bb hbb; (simp only [Act.put]; (try simp only [List.setIfInBounds_toArray]); (try simp only [List.set_cons_succ]); (try simp only [List.set_cons_zero]))) | ((with_reducible apply wpList_gen2); rfl; rfl; rfl; exact NotVar.app; intro bb hbb; (simp only [Act.put]; (try simp only [List.setIfInBounds_toArray]); (try simp only [List.set_cons_succ]); (try simp only [List.set_cons_zero]))) | ((with_reducible apply wpList_gconst); rfl; rfl; rfl; simp only []) | ((with_reducible apply wpList_gskip); rfl; rfl; (first | exact Or.inl rfl | exact Or.inr rfl); (simp only [Act.put]; (try simp only [List.setIfInBounds_toArray]); (try simp only [List.set_cons_succ]); (try simp only [List.set_cons_zero]))) | ((with_reducible apply wpList_ggmove); rfl; rfl; rfl; rfl; exact (by first | exact Wants.bt _ | exact Wants.bf _ | exact Wants.gt _ _ | exact Wants.gf _ _); rfl; (simp only [Act.put]; (try simp only [List.setIfInBounds_toArray]); (try simp only [List.set_cons_succ]); (try simp only [List.set_cons_zero]))) | ((with_reducible apply wpList_gmove); rfl; rfl; rfl; rfl; exact (by first | exact Wants.bt _ | exact Wants.bf _ | exact Wants.gt _ _ | exact Wants.gf _ _); rfl; (simp only [Act.put]; (try simp only [List.setIfInBounds_toArray]); (try simp only [List.set_cons_succ]); (try simp only [List.set_cons_zero]))) | ((with_reducible apply wpList_isGPick); rfl; first | ((with_reducible apply wpList_gpick_and); rfl; rfl; rfl; exact (by first | exact Wants.bt _ | exact Wants.bf _ | exact Wants.gt _ _ | exact Wants.gf _ _); rfl; rfl; rfl; rfl; (simp only [Act.put]; (try simp only [List.setIfInBounds_toArray]); (try simp only [List.set_cons_succ]); (try simp only [List.set_cons_zero]))) | ((with_reducible apply wpList_gpick_or); rfl; rfl; rfl; exact (by first | exact Wants.bt _ | exact Wants.bf _ | exact Wants.gt _ _ | exact Wants.gf _ _); rfl; rfl; rfl; rfl; (simp only [Act.put]; (try simp only [List.setIfInBounds_toArray]); (try simp only [List.set_cons_succ]); (try simp only [List.set_cons_zero])))) | ((with_reducible apply wpList_guarded); rfl; rfl; rfl; exact (by first | exact Wants.bt _ | exact Wants.bf _ | exact Wants.gt _ _ | exact Wants.gf _ _); (intro hG; (try simp only [Bool.and_eq_true] at hG); (try simp only [Bool.not_eq_true'] at hG); (first | subst hG | (obtain ⟨h1, h2⟩ := hG; subst h1; subst h2) | (obtain ⟨⟨h1, h2⟩, h3⟩ := hG; subst h1; subst h2; subst h3)); (repeat (first | simp only [gv_true] | simp only [gv_false] | simp only [Bool.not_true] | simp only [Bool.not_false] | simp only [Bool.true_and] | simp only [Bool.false_and] | simp only [Bool.and_self])); go_simp; with_reducible rfl); (simp only [Act.put]; (try simp only [List.setIfInBounds_toArray]); (try simp only [List.set_cons_succ]); (try simp only [List.set_cons_zero]))) | ((with_reducible apply wpList_gsplit); rfl; rfl; rfl; all_goals (intro hb; subst hb; (repeat (first | simp only [gv_true] | simp only [gv_false] | simp only [Bool.not_true] | simp only [Bool.not_false] | simp only [Bool.true_and] | simp only [Bool.false_and] | simp only [Bool.and_self])))) | ((with_reducible apply wpList_gsplit2); rfl; rfl; rfl; all_goals (intro hb; (first | subst hb | ((try simp only [Bool.and_eq_true] at hb); (try simp only [Bool.not_eq_true'] at hb); obtain ⟨h1, h2⟩ := hb; subst h1; subst h2)); (repeat (first | simp only [gv_true] | simp only [gv_false] | simp only [Bool.not_true] | simp only [Bool.not_false] | simp only [Bool.true_and] | simp only [Bool.false_and] | simp only [Bool.and_self]))))) | ((with_reducible apply wpList_isPick); rfl; rfl; first | ((with_reducible apply wpList_pick_t); rfl; rfl; rfl; rfl; (simp only [Act.put]; (try simp only [List.setIfInBounds_toArray]); (try simp only [List.set_cons_succ]); (try simp only [List.set_cons_zero]))) | ((with_reducible apply wpList_pick_f); rfl; rfl; rfl; rfl; (simp only [Act.put]; (try simp only [List.setIfInBounds_toArray]); (try simp only [List.set_cons_succ]); (try simp only [List.set_cons_zero]))) | ((with_reducible apply wpList_pick_and); rfl; rfl; rfl; rfl; rfl; (simp only [Act.put]; (try simp only [List.setIfInBounds_toArray]); (try simp only [List.set_cons_succ]); (try simp only [List.set_cons_zero]))) | ((with_reducible apply wpList_pick_or); rfl; rfl; rfl; rfl; rfl; (simp only [Act.put]; (try simp only [List.setIfInBounds_toArray]); (try simp only [List.set_cons_succ]); (try simp only [List.set_cons_zero])))) | go_values | go_guarded | go_step | go_upon | go_back | dsimp only)
   go_ret
   refine ⟨ret_bool (b := isName s.data.toList) ?_, rfl⟩
   rw [HE.out]
   simp only [Hid] at *
   subst_vars
   have e24 : decide ((s.size : Int) ≤ 24) = decide (s.size ≤ 24) := by rw [Bool.eq_iff_iff]; simp only [decide_eq_true_eq]; omega
   rw [e24, ByteArray.toList_eq, show s.data.toList.isEmpty = decide (s.data.toList = []) from by rw [Bool.eq_iff_iff]; simp]
   simp
end Go.Proofs.YtcigjmlileckhaaGreatDoor
/- W2 -/
namespace Go.Proofs.YtcigjmlileckhaaGreatDoor
open Go.RowKit
theorem Tryz.zero4 (w : World) : (zeroValue 4).run Tryz.prog w = .ok (.bool false) w := by kernel_rfl
/-- What the map of the names that were seen holds. -/
def SeenNames (kv : List (ByteArray × Value)) (l : List ByteArray) : Prop := ∀ x, (x ∈ l → kvGet kv x = some (.bool true)) ∧ (x ∉ l → kvGet kv x = none)
theorem SeenNames.add {kv : List (ByteArray × Value)} {l : List ByteArray} (h : SeenNames kv l) (x : ByteArray) : SeenNames (kvSet kv x (.bool true)) (l ++ [x]) := fun y => by
 by_cases e : y = x
 ·subst e; exact ⟨fun _ => kvGet_set_same _ _ _, fun hn => absurd (by simp) hn⟩
 ·exact ⟨fun hy => by rw [kvGet_set_other e]; exact (h y).1 (by simpa [e] using hy), fun hy => by rw [kvGet_set_other e]; exact (h y).2 (by simp at hy; exact hy.1)⟩
theorem SeenNames.look {kv : List (ByteArray × Value)} {l : List ByteArray} (h : SeenNames kv l) (x : ByteArray) : ∃ b : Bool, (kvGet kv x).getD (.bool false) = .bool b ∧ (b = true ↔ x ∈ l) := by
 by_cases hx : x ∈ l
 ·exact ⟨true, by rw [(h x).1 hx]; rfl, by simp [hx]⟩
 ·exact ⟨false, by rw [(h x).2 hx]; rfl, by simp [hx]⟩
set_option maxRecDepth 100000 in
set_option maxHeartbeats 8000000 in
theorem factValid_any (Z : Zone) (v : Value) (ds : List FactD) (w : World) (hd : Facts Z w v ds) :
  Calls Tryz.prog 13 #[.agg #[v]] w fun e w' => e = .returned (.bool (validDom ds)) ∧ Below w.heap.size w w' := by
 obtain ⟨⟨A, cap, rfl, hcap, _, hbytes, hs⟩, hfit⟩ := hd
 have hmm := @run_makeMap Tryz.prog
 go_enter Tryz.func13, Tryz.ntmps13
 go_wp2
 go_loopw [12] (fun i wr => ∃ (k : Nat) (kv : List (ByteArray × Value)), k ≤ ds.length ∧ i = .int .i64 k ∧ MapIs encS wr (w.heap.size + 1) kv ∧ wr.cell? ⟨w.heap.size, 0, none⟩ = some (.slice A ds.length cap) ∧ Below w.heap.size w wr ∧ Hid (domTo ds k) ∧ Hid (SeenNames kv (names (ds.take k)))) (fun i _ => ds.length - (intOf i).toNat)
 case atStart =>
  refine ⟨0, [], Nat.zero_le _, rfl, ?_, by simp, ((Below.refl _ _).alloc (Nat.le_refl _) _).alloc (by simp) _, domTo_zero _, fun x => ⟨fun h => by simp [names] at h, fun _ => rfl⟩⟩
  simpa using MapIs.made (w.alloc (.cells #[.slice A ds.length cap] 27)) encS
 case round =>
  obtain ⟨k, kv, hk, rfl, hmap, hcell, hbel, hdom, hseen⟩ := hrel
  by_cases hlt : k < ds.length
  ·obtain ⟨b, off, cs, rfl, hz, hc, rfl⟩ := hs.at_ hlt
   have hfk := hfit ds[k] (List.getElem_mem hlt)
   have HBAD := hid (validDom_bad hlt)
   have HNEXT := hid (domTo_succ hlt hdom.out)
   have htk := hid (take_succ_get hlt)
   have hbs : b < w.heap.size := lt_of_cell (fact_cells hc).1
   obtain ⟨c0, c1, c2, c3⟩ := fact_cells (cells_below hbel hbs hc)
   clear hc hs
   have HF : Hid (∃ f, f = ds[k]) := ⟨_, rfl⟩
   generalize ds[k] = f at *
   obtain ⟨nm, kd, lo, hi⟩ := f
   obtain ⟨hnm, hkd, hlo, hhi⟩ := hfk
   simp only at c0 c1 c2 c3 hnm hkd hlo hhi
   obtain ⟨sb, hsb, hsb2⟩ := hseen.out.look nm
   have HSB := hid hsb2
   clear hsb2
   have hlook : ∀ o, (Instr.lookup 62 (.map (some (w.heap.size + 1))) (.string nm) false).run Tryz.prog (wr.alloc o) = .ok (.bool sb) (wr.alloc o) := fun o => by
    have := MapIs.look (w := wr.alloc o) (hmap.of_block (Below.heap_alloc _ _ _ hmap.lt)) (keyOk_string (P := Tryz.prog) (k := 9) Tryz.underlying9) (t := 62) (e := 4) Tryz.underlying62 (Tryz.zero4 _) nm false
    simpa [encS, hsb] using this
   clear hsb
   have hmap1 := fun o => hmap.of_block (w' := wr.alloc o) (Below.heap_alloc _ _ _ hmap.lt)
   clear hmap
   repeat' (first | (go_big_may; first
    | (go_at_call 48; refine (isName_any _ hnm _).mono ?_; rintro e w' ⟨rfl, rfl⟩; dsimp only)
    | (at_mapUpdate; refine wpList_mapStore rfl (.tmp 67) (.tmp 69) _ rfl (keyOk_string (P := Tryz.prog) (k := 9) Tryz.underlying9) (e := 4) Tryz.underlying62 rfl (hmap1 _) nm rfl ?_; intro w1 hm1 hk1 hsz1 hce1 hfr1)) | ((with_reducible apply wpList_isG); rfl; first | ((with_reducible apply wpList_gen); rfl; rfl; rfl; exact NotVar.app; intro bb hbb; (simp only [Act.put]; (try simp only [List.setIfInBounds_toArray]); (try simp only [List.set_cons_succ]); (try simp only [List.set_cons_zero]))) | ((with_reducible apply wpList_gen2); rfl; rfl; rfl; exact NotVar.app; intro bb hbb; (simp only [Act.put]; (try simp only [List.setIfInBounds_toArray]); (try simp only [List.set_cons_succ]); (try simp only [List.set_cons_zero]))) | ((with_reducible apply wpList_gconst); rfl; rfl; rfl; simp only []) | ((with_reducible apply wpList_gskip); rfl; rfl; (first | exact Or.inl rfl | exact Or.inr rfl); (simp only [Act.put]; (try simp only [List.setIfInBounds_toArray]); (try simp only [List.set_cons_succ]); (try simp only [List.set_cons_zero]))) | ((with_reducible apply wpList_ggmove); rfl; rfl; rfl; rfl; exact (by first | exact Wants.bt _ | exact Wants.bf _ | exact Wants.gt _ _ | exact Wants.gf _ _); rfl; (simp only [Act.put]; (try simp only [List.setIfInBounds_toArray]); (try simp only [List.set_cons_succ]); (try simp only [List.set_cons_zero]))) | ((with_reducible apply wpList_gmove); rfl; rfl; rfl; rfl; exact (by first | exact Wants.bt _ | exact Wants.bf _ | exact Wants.gt _ _ | exact Wants.gf _ _); rfl; (simp only [Act.put]; (try simp only [List.setIfInBounds_toArray]); (try simp only [List.set_cons_succ]); (try simp only [List.set_cons_zero]))) | ((with_reducible apply wpList_isGPick); rfl; first | ((with_reducible apply wpList_gpick_and); rfl; rfl; rfl; exact (by first | exact Wants.bt _ | exact Wants.bf _ | exact Wants.gt _ _ | exact Wants.gf _ _); rfl; rfl; rfl; rfl; (simp only [Act.put]; (try simp only [List.setIfInBounds_toArray]); (try simp only [List.set_cons_succ]); (try simp only [List.set_cons_zero]))) | ((with_reducible apply wpList_gpick_or); rfl; rfl; rfl; exact (by first | exact Wants.bt _ | exact Wants.bf _ | exact Wants.gt _ _ | exact Wants.gf _ _); rfl; rfl; rfl; rfl; (simp only [Act.put]; (try simp only [List.setIfInBounds_toArray]); (try simp only [List.set_cons_succ]); (try simp only [List.set_cons_zero])))) | ((with_reducible apply wpList_guarded); rfl; rfl; rfl; exact (by first | exact Wants.bt _ | exact Wants.bf _ | exact Wants.gt _ _ | exact Wants.gf _ _); (intro hG; (try simp only [Bool.and_eq_true] at hG); (try simp only [Bool.not_eq_true'] at hG); (first | subst hG | (obtain ⟨h1, h2⟩ := hG; subst h1; subst h2) | (obtain ⟨⟨h1, h2⟩, h3⟩ := hG; subst h1; subst h2; subst h3)); (repeat (first | simp only [gv_true] | simp only [gv_false] | simp only [Bool.not_true] | simp only [Bool.not_false] | simp only [Bool.true_and] | simp only [Bool.false_and] | simp only [Bool.and_self])); go_simp; with_reducible rfl); (simp only [Act.put]; (try simp only [List.setIfInBounds_toArray]); (try simp only [List.set_cons_succ]); (try simp only [List.set_cons_zero]))) | ((with_reducible apply wpList_gsplit); rfl; rfl; rfl; all_goals (intro hb; subst hb; (repeat (first | simp only [gv_true] | simp only [gv_false] | simp only [Bool.not_true] | simp only [Bool.not_false] | simp only [Bool.true_and] | simp only [Bool.false_and] | simp only [Bool.and_self])))) | ((with_reducible apply wpList_gsplit2); rfl; rfl; rfl; all_goals (intro hb; (first | subst hb | ((try simp only [Bool.and_eq_true] at hb); (try simp only [Bool.not_eq_true'] at hb); obtain ⟨h1, h2⟩ := hb; subst h1; subst h2)); (repeat (first | simp only [gv_true] | simp only [gv_false] | simp only [Bool.not_true] | simp only [Bool.not_false] | simp only [Bool.true_and] | simp only [Bool.false_and] | simp only [Bool.and_self]))))) | ((with_reducible apply wpList_isPick); rfl; rfl; first | ((with_reducible apply wpList_pick_t); rfl; rfl; rfl; rfl; (simp only [Act.put]; (try simp only [List.setIfInBounds_toArray]); (try simp only [List.set_cons_succ]); (try simp only [List.set_cons_zero]))) | ((with_reducible apply wpList_pick_f); rfl; rfl; rfl; rfl; (simp only [Act.put]; (try simp only [List.setIfInBounds_toArray]); (try simp only [List.set_cons_succ]); (try simp only [List.set_cons_zero]))) | ((with_reducible apply wpList_pick_and); rfl; rfl; rfl; rfl; rfl; (simp only [Act.put]; (try simp only [List.setIfInBounds_toArray]); (try simp only [List.set_cons_succ]); (try simp only [List.set_cons_zero]))) | ((with_reducible apply wpList_pick_or); rfl; rfl; rfl; rfl; rfl; (simp only [Act.put]; (try simp only [List.setIfInBounds_toArray]); (try simp only [List.set_cons_succ]); (try simp only [List.set_cons_zero])))) | go_values | go_guarded | go_step | go_upon | go_back | dsimp only)
   ·go_ret
    refine ⟨ret_bool (b := validDom ds) ?_, hbel.alloc hbel.size _⟩
    rw [HBAD.out (Or.inl (fact_bad ?_))]
    simp only [Hid] at *
    subst_vars
    exact hbb.trans (by simp only [Bool.not_and])
   ·have hor : bb = true ∨ sb = true := by assumption
    go_ret
    refine ⟨ret_bool (b := validDom ds) ?_, hbel.alloc hbel.size _⟩
    rw [HBAD.out ?_]
    simp only [Hid] at *
    subst_vars
    rcases hor with hor | hor
    ·exact .inl (fact_name_bad (by simpa using hor))
    ·exact .inr (HSB.1 hor)
   ·have hand : bb = false ∧ sb = false := by assumption
    go_roundw
    case rel =>
     refine ⟨k + 1, _, by omega, by go_num, hm1, ?_, below_keeps_ne (hbel.alloc hbel.size _) hk1 (by omega) (by simp; have := hbel.size; omega), ?_, ?_⟩
     ·rw [hce1, World.cell?_alloc_past _ _ _ (lt_of_cell hcell)]; exact hcell
     ·simp only [Hid] at *
      subst_vars
      refine HNEXT (fact_good ?_ (by simpa using hand.1)) (fun h => by rw [HSB.2 h] at hand; simp at hand)
      exact hbb.trans (by simp only [Bool.not_and])
     ·rw [htk.out]
      simp only [Hid, names, List.map_append, List.map_cons, List.map_nil] at *
      exact hseen.add _
    case measure => simp [intOf]; omega
  ·obtain rfl : k = ds.length := by omega
   have HALL := hid (validDom_all hdom.out)
   clear hdom hseen
   repeat' (first | (go_big_may; fail) | ((with_reducible apply wpList_isG); rfl; first | ((with_reducible apply wpList_gen); rfl; rfl; rfl; exact NotVar.app; intro bb hbb; (simp only [Act.put]; (try simp only [List.setIfInBounds_toArray]); (try simp only [List.set_cons_succ]); (try simp only [List.set_cons_zero]))) | ((with_reducible apply wpList_gen2); rfl; rfl; rfl; exact NotVar.app; intro bb hbb; (simp only [Act.put]; (try simp only [List.setIfInBounds_toArray]); (try simp only [List.set_cons_succ]); (try simp only [List.set_cons_zero]))) | ((with_reducible apply wpList_gconst); rfl; rfl; rfl; simp only []) | ((with_reducible apply wpList_gskip); rfl; rfl; (first | exact Or.inl rfl | exact Or.inr rfl); (simp only [Act.put]; (try simp only [List.setIfInBounds_toArray]); (try simp only [List.set_cons_succ]); (try simp only [List.set_cons_zero]))) | ((with_reducible apply wpList_ggmove); rfl; rfl; rfl; rfl; exact (by first | exact Wants.bt _ | exact Wants.bf _ | exact Wants.gt _ _ | exact Wants.gf _ _); rfl; (simp only [Act.put]; (try simp only [List.setIfInBounds_toArray]); (try simp only [List.set_cons_succ]); (try simp only [List.set_cons_zero]))) | ((with_reducible apply wpList_gmove); rfl; rfl; rfl; rfl; exact (by first | exact Wants.bt _ | exact Wants.bf _ | exact Wants.gt _ _ | exact Wants.gf _ _); rfl; (simp only [Act.put]; (try simp only [List.setIfInBounds_toArray]); (try simp only [List.set_cons_succ]); (try simp only [List.set_cons_zero]))) | ((with_reducible apply wpList_isGPick); rfl; first | ((with_reducible apply wpList_gpick_and); rfl; rfl; rfl; exact (by first | exact Wants.bt _ | exact Wants.bf _ | exact Wants.gt _ _ | exact Wants.gf _ _); rfl; rfl; rfl; rfl; (simp only [Act.put]; (try simp only [List.setIfInBounds_toArray]); (try simp only [List.set_cons_succ]); (try simp only [List.set_cons_zero]))) | ((with_reducible apply wpList_gpick_or); rfl; rfl; rfl; exact (by first | exact Wants.bt _ | exact Wants.bf _ | exact Wants.gt _ _ | exact Wants.gf _ _); rfl; rfl; rfl; rfl; (simp only [Act.put]; (try simp only [List.setIfInBounds_toArray]); (try simp only [List.set_cons_succ]); (try simp only [List.set_cons_zero])))) | ((with_reducible apply wpList_guarded); rfl; rfl; rfl; exact (by first | exact Wants.bt _ | exact Wants.bf _ | exact Wants.gt _ _ | exact Wants.gf _ _); (intro hG; (try simp only [Bool.and_eq_true] at hG); (try simp only [Bool.not_eq_true'] at hG); (first | subst hG | (obtain ⟨h1, h2⟩ := hG; subst h1; subst h2) | (obtain ⟨⟨h1, h2⟩, h3⟩ := hG; subst h1; subst h2; subst h3)); (repeat (first | simp only [gv_true] | simp only [gv_false] | simp only [Bool.not_true] | simp only [Bool.not_false] | simp only [Bool.true_and] | simp only [Bool.false_and] | simp only [Bool.and_self])); go_simp; with_reducible rfl); (simp only [Act.put]; (try simp only [List.setIfInBounds_toArray]); (try simp only [List.set_cons_succ]); (try simp only [List.set_cons_zero]))) | ((with_reducible apply wpList_gsplit); rfl; rfl; rfl; all_goals (intro hb; subst hb; (repeat (first | simp only [gv_true] | simp only [gv_false] | simp only [Bool.not_true] | simp only [Bool.not_false] | simp only [Bool.true_and] | simp only [Bool.false_and] | simp only [Bool.and_self])))) | ((with_reducible apply wpList_gsplit2); rfl; rfl; rfl; all_goals (intro hb; (first | subst hb | ((try simp only [Bool.and_eq_true] at hb); (try simp only [Bool.not_eq_true'] at hb); obtain ⟨h1, h2⟩ := hb; subst h1; subst h2)); (repeat (first | simp only [gv_true] | simp only [gv_false] | simp only [Bool.not_true] | simp only [Bool.not_false] | simp only [Bool.true_and] | simp only [Bool.false_and] | simp only [Bool.and_self]))))) | ((with_reducible apply wpList_isPick); rfl; rfl; first | ((with_reducible apply wpList_pick_t); rfl; rfl; rfl; rfl; (simp only [Act.put]; (try simp only [List.setIfInBounds_toArray]); (try simp only [List.set_cons_succ]); (try simp only [List.set_cons_zero]))) | ((with_reducible apply wpList_pick_f); rfl; rfl; rfl; rfl; (simp only [Act.put]; (try simp only [List.setIfInBounds_toArray]); (try simp only [List.set_cons_succ]); (try simp only [List.set_cons_zero]))) | ((with_reducible apply wpList_pick_and); rfl; rfl; rfl; rfl; rfl; (simp only [Act.put]; (try simp only [List.setIfInBounds_toArray]); (try simp only [List.set_cons_succ]); (try simp only [List.set_cons_zero]))) | ((with_reducible apply wpList_pick_or); rfl; rfl; rfl; rfl; rfl; (simp only [Act.put]; (try simp only [List.setIfInBounds_toArray]); (try simp only [List.set_cons_succ]); (try simp only [List.set_cons_zero])))) | go_values | go_guarded | go_step | go_upon | go_back | dsimp only)
   go_ret
   refine ⟨ret_bool (b := validDom ds) ?_, hbel⟩
   rw [HALL.out, Bool.eq_iff_iff]
   simp only [decide_eq_true_eq]
   omega
end Go.Proofs.YtcigjmlileckhaaGreatDoor
/- Walks of slices.IndexFunc and slices.ContainsFunc at structs. -/
namespace Go.Proofs.YtcigjmlileckhaaGreatDoor
open Go.RowKit
set_option maxRecDepth 100000 in
set_option maxHeartbeats 1000000 in
theorem indexFuncFact_any {α : Type} (g : FuncId) (lb : Array Value) (eg : ∀ args w, (callFunc g args).run Tryz.prog w = .ok (.enter g args) w) (R : List Value → α → Prop) (Z : Zone) (xs : List α) (p : Nat → Bool) (A : Option Addr) (cap : Nat) (w : World)
  (hR : ∀ cs x, R cs x → ∃ v0 v1 v2 v3, cs = [v0, v1, v2, v3]) (hs : SeqR R 4 Z w xs A) (hn : xs.length ≤ 140737488355328) (hp : PredF Tryz.prog g lb R w xs p) :
  Calls Tryz.prog 101 #[.slice A xs.length cap, .func (.func g) #[] lb] w fun e w' => e = .returned (.int .i64 (firstIdx p xs.length 0)) ∧ Below w.heap.size w w' := by
 have HP := hid hp
 clear hp
 go_enter Tryz.func101, Tryz.ntmps101
 go_wp2
 go_loopw [8] (fun i wr => ∃ k : Nat, k ≤ xs.length ∧ i = .int .i64 k ∧ Below w.heap.size w wr ∧ Hid (∀ j, 0 ≤ j → j < k → p j = false)) (fun i _ => xs.length - (intOf i).toNat)
 case atStart => exact ⟨0, Nat.zero_le _, rfl, Below.refl _ _, fun j _ h => absurd h (Nat.not_lt_zero j)⟩
 case round =>
  obtain ⟨k, hk, rfl, hbel, hno⟩ := hrel
  by_cases hlt : k < xs.length
  ·obtain ⟨b, off, cs, rfl, hz, hc, hr⟩ := hs.at_ hlt
   have HR := hid hr
   obtain ⟨v0, v1, v2, v3, rfl⟩ := hR _ _ hr
   have hbs : b < w.heap.size := lt_of_cell (four_cells hc).1
   obtain ⟨c0, c1, c2, c3⟩ := four_cells (cells_below hbel hbs hc)
   clear hc hs hr
   have HC := hid (HP.out k hlt _ HR.out _ hbel)
   have HBELW := hid hbel
   clear hbel
   cases hpk : p k
   all_goals
    have HPK := hid hpk
    have HC' := HC.out
    rw [hpk] at HC'
    clear hpk
    have HC2 := hid HC'
    clear HC'
    go_wp2_with fail
    refine HC2.out.mono ?_
    rintro e w1 ⟨rfl, hb1⟩
    go_wp2
   ·go_roundw
    case rel => exact ⟨k + 1, by omega, by go_num, (HBEL_trans HBELW.out hb1), fun j h1 h2 => by
     by_cases e : j = k
     ·subst e; exact HPK.out
     ·exact hno.out j h1 (by omega)⟩
    case measure => simp [intOf]; omega
   ·go_ret
    exact ⟨ret_int (firstIdx_hit hno.out (Nat.zero_le _) (by omega) HPK.out).symm, HBEL_trans HBELW.out hb1⟩
  ·obtain rfl : k = xs.length := by omega
   go_wp2
   go_ret
   exact ⟨ret_int (firstIdx_miss (fun j h1 h2 => hno.out j h1 (by omega))).symm, hbel⟩
set_option maxRecDepth 100000 in
set_option maxHeartbeats 1000000 in
theorem indexFuncNode_any {α : Type} (g : FuncId) (lb : Array Value) (eg : ∀ args w, (callFunc g args).run Tryz.prog w = .ok (.enter g args) w) (R : List Value → α → Prop) (Z : Zone) (xs : List α) (p : Nat → Bool) (A : Option Addr) (cap : Nat) (w : World)
  (hR : ∀ cs x, R cs x → ∃ v0 v1 v2 v3, cs = [v0, v1, v2, v3]) (hs : SeqR R 4 Z w xs A) (hn : xs.length ≤ 140737488355328) (hp : PredF Tryz.prog g lb R w xs p) :
  Calls Tryz.prog 103 #[.slice A xs.length cap, .func (.func g) #[] lb] w fun e w' => e = .returned (.int .i64 (firstIdx p xs.length 0)) ∧ Below w.heap.size w w' := by
 have HP := hid hp
 clear hp
 go_enter Tryz.func103, Tryz.ntmps103
 go_wp2
 go_loopw [8] (fun i wr => ∃ k : Nat, k ≤ xs.length ∧ i = .int .i64 k ∧ Below w.heap.size w wr ∧ Hid (∀ j, 0 ≤ j → j < k → p j = false)) (fun i _ => xs.length - (intOf i).toNat)
 case atStart => exact ⟨0, Nat.zero_le _, rfl, Below.refl _ _, fun j _ h => absurd h (Nat.not_lt_zero j)⟩
 case round =>
  obtain ⟨k, hk, rfl, hbel, hno⟩ := hrel
  by_cases hlt : k < xs.length
  ·obtain ⟨b, off, cs, rfl, hz, hc, hr⟩ := hs.at_ hlt
   have HR := hid hr
   obtain ⟨v0, v1, v2, v3, rfl⟩ := hR _ _ hr
   have hbs : b < w.heap.size := lt_of_cell (four_cells hc).1
   obtain ⟨c0, c1, c2, c3⟩ := four_cells (cells_below hbel hbs hc)
   clear hc hs hr
   have HC := hid (HP.out k hlt _ HR.out _ hbel)
   have HBELW := hid hbel
   clear hbel
   cases hpk : p k
   all_goals
    have HPK := hid hpk
    have HC' := HC.out
    rw [hpk] at HC'
    clear hpk
    have HC2 := hid HC'
    clear HC'
    go_wp2_with fail
    refine HC2.out.mono ?_
    rintro e w1 ⟨rfl, hb1⟩
    go_wp2
   ·go_roundw
    case rel => exact ⟨k + 1, by omega, by go_num, (HBEL_trans HBELW.out hb1), fun j h1 h2 => by
     by_cases e : j = k
     ·subst e; exact HPK.out
     ·exact hno.out j h1 (by omega)⟩
    case measure => simp [intOf]; omega
   ·go_ret
    exact ⟨ret_int (firstIdx_hit hno.out (Nat.zero_le _) (by omega) HPK.out).symm, HBEL_trans HBELW.out hb1⟩
  ·obtain rfl : k = xs.length := by omega
   go_wp2
   go_ret
   exact ⟨ret_int (firstIdx_miss (fun j h1 h2 => hno.out j h1 (by omega))).symm, hbel⟩
set_option maxRecDepth 100000 in
set_option maxHeartbeats 1000000 in
theorem indexFuncFormula_any {α : Type} (g : FuncId) (lb : Array Value) (eg : ∀ args w, (callFunc g args).run Tryz.prog w = .ok (.enter g args) w) (R : List Value → α → Prop) (Z : Zone) (xs : List α) (p : Nat → Bool) (A : Option Addr) (cap : Nat) (w : World)
  (hR : ∀ cs x, R cs x → ∃ v0 v1 v2 v3 v4, cs = [v0, v1, v2, v3, v4]) (hs : SeqR R 5 Z w xs A) (hn : xs.length ≤ 140737488355328) (hp : PredF Tryz.prog g lb R w xs p) :
  Calls Tryz.prog 105 #[.slice A xs.length cap, .func (.func g) #[] lb] w fun e w' => e = .returned (.int .i64 (firstIdx p xs.length 0)) ∧ Below w.heap.size w w' := by
 have HP := hid hp
 clear hp
 go_enter Tryz.func105, Tryz.ntmps105
 go_wp2
 go_loopw [8] (fun i wr => ∃ k : Nat, k ≤ xs.length ∧ i = .int .i64 k ∧ Below w.heap.size w wr ∧ Hid (∀ j, 0 ≤ j → j < k → p j = false)) (fun i _ => xs.length - (intOf i).toNat)
 case atStart => exact ⟨0, Nat.zero_le _, rfl, Below.refl _ _, fun j _ h => absurd h (Nat.not_lt_zero j)⟩
 case round =>
  obtain ⟨k, hk, rfl, hbel, hno⟩ := hrel
  by_cases hlt : k < xs.length
  ·obtain ⟨b, off, cs, rfl, hz, hc, hr⟩ := hs.at_ hlt
   have HR := hid hr
   obtain ⟨v0, v1, v2, v3, v4, rfl⟩ := hR _ _ hr
   have hbs : b < w.heap.size := lt_of_cell (five_cells hc).1
   obtain ⟨c0, c1, c2, c3, c4⟩ := five_cells (cells_below hbel hbs hc)
   clear hc hs hr
   have HC := hid (HP.out k hlt _ HR.out _ hbel)
   have HBELW := hid hbel
   clear hbel
   cases hpk : p k
   all_goals
    have HPK := hid hpk
    have HC' := HC.out
    rw [hpk] at HC'
    clear hpk
    have HC2 := hid HC'
    clear HC'
    go_wp2_with fail
    refine HC2.out.mono ?_
    rintro e w1 ⟨rfl, hb1⟩
    go_wp2
   ·go_roundw
    case rel => exact ⟨k + 1, by omega, by go_num, (HBEL_trans HBELW.out hb1), fun j h1 h2 => by
     by_cases e : j = k
     ·subst e; exact HPK.out
     ·exact hno.out j h1 (by omega)⟩
    case measure => simp [intOf]; omega
   ·go_ret
    exact ⟨ret_int (firstIdx_hit hno.out (Nat.zero_le _) (by omega) HPK.out).symm, HBEL_trans HBELW.out hb1⟩
  ·obtain rfl : k = xs.length := by omega
   go_wp2
   go_ret
   exact ⟨ret_int (firstIdx_miss (fun j h1 h2 => hno.out j h1 (by omega))).symm, hbel⟩
set_option maxRecDepth 100000 in
set_option maxHeartbeats 1000000 in
theorem containsFuncNode_any {α : Type} (g : FuncId) (lb : Array Value) (eg : ∀ args w, (callFunc g args).run Tryz.prog w = .ok (.enter g args) w) (R : List Value → α → Prop) (Z : Zone) (xs : List α) (p : Nat → Bool) (A : Option Addr) (cap : Nat) (w : World)
  (hR : ∀ cs x, R cs x → ∃ v0 v1 v2 v3, cs = [v0, v1, v2, v3]) (hs : SeqR R 4 Z w xs A) (hn : xs.length ≤ 140737488355328) (hp : PredF Tryz.prog g lb R w xs p) :
  Calls Tryz.prog 56 #[.slice A xs.length cap, .func (.func g) #[] lb] w fun e w' => e = .returned (.bool (decide (0 ≤ firstIdx p xs.length 0))) ∧ Below w.heap.size w w' := by
 have HC := hid (indexFuncNode_any g lb eg R Z xs p A cap w hR hs hn hp)
 clear hp hs
 go_enter Tryz.func56, Tryz.ntmps56
 go_wp2_with fail
 refine HC.out.mono ?_
 rintro e w1 ⟨rfl, hb1⟩
 go_wp2
 go_ret
 exact ⟨rfl, hb1⟩
set_option maxRecDepth 100000 in
set_option maxHeartbeats 1000000 in
theorem containsFuncFormula_any {α : Type} (g : FuncId) (lb : Array Value) (eg : ∀ args w, (callFunc g args).run Tryz.prog w = .ok (.enter g args) w) (R : List Value → α → Prop) (Z : Zone) (xs : List α) (p : Nat → Bool) (A : Option Addr) (cap : Nat) (w : World)
  (hR : ∀ cs x, R cs x → ∃ v0 v1 v2 v3 v4, cs = [v0, v1, v2, v3, v4]) (hs : SeqR R 5 Z w xs A) (hn : xs.length ≤ 140737488355328) (hp : PredF Tryz.prog g lb R w xs p) :
  Calls Tryz.prog 59 #[.slice A xs.length cap, .func (.func g) #[] lb] w fun e w' => e = .returned (.bool (decide (0 ≤ firstIdx p xs.length 0))) ∧ Below w.heap.size w w' := by
 have HC := hid (indexFuncFormula_any g lb eg R Z xs p A cap w hR hs hn hp)
 clear hp hs
 go_enter Tryz.func59, Tryz.ntmps59
 go_wp2_with fail
 refine HC.out.mono ?_
 rintro e w1 ⟨rfl, hb1⟩
 go_wp2
 go_ret
 exact ⟨rfl, hb1⟩
end Go.Proofs.YtcigjmlileckhaaGreatDoor
/- Walks of package fact: Index, Fits, Least. -/
namespace Go.Proofs.YtcigjmlileckhaaGreatDoor
open Go.RowKit
theorem nameIs_at {ds : List FactD} {nm : ByteArray} {i : Nat} (hi : i < ds.length) : nameIs ds nm i = decide (ds[i].name = nm) := by
 simp [nameIs, List.getElem?_eq_getElem hi]
set_option maxRecDepth 100000 in
set_option maxHeartbeats 1000000 in
theorem index1_any (B : Nat) (nm : ByteArray) (f : FactD) (W : World) (hB : W.cell? ⟨B, 0, none⟩ = some (.string nm)) :
  Calls Tryz.prog 102 #[.agg #[.string f.name, .int .i64 f.kind, .int .i64 f.lo, .int .i64 f.hi], .pointer (some ⟨B, 0, none⟩)] W fun e W' => e = .returned (.bool (decide (f.name = nm))) ∧ Below W.heap.size W W' := by
 have hlt : B < W.heap.size := lt_of_cell hB
 go_enter Tryz.func102, Tryz.ntmps102
 go_wp2
 go_ret
 exact ⟨ret_bool (toList_beq _ _), (Below.refl _ _).alloc (Nat.le_refl _) _⟩
set_option maxRecDepth 100000 in
set_option maxHeartbeats 1000000 in
theorem factIndex_any (Z : Zone) (v : Value) (ds : List FactD) (nm : ByteArray) (w : World) (hd : Facts Z w v ds) :
  Calls Tryz.prog 53 #[.agg #[v], .string nm] w fun e w' => e = .returned (.int .i64 (factIdx ds nm)) ∧ Below w.heap.size w w' := by
 obtain ⟨⟨A, cap, rfl, hcap, _, hbytes, hs⟩, hfit⟩ := hd
 have eg : ∀ args w, (callFunc 102 args).run Tryz.prog w = .ok (.enter 102 args) w := enters_of Tryz.func102 (by kernel_rfl) rfl
 have hk2 : Keeps Z w ((w.alloc (.cells #[.slice A ds.length cap] 27)).alloc (.cells #[.string nm] 9)) := ((Keeps.refl _ _).alloc _).alloc _
 have HC := hid (indexFuncFact_any 102 #[.pointer (some ⟨w.heap.size + 1, 0, none⟩)] eg (fun cs x => cs = FactD.cells x) Z ds (nameIs ds nm) A cap ((w.alloc (.cells #[.slice A ds.length cap] 27)).alloc (.cells #[.string nm] 9))
  (fun cs x h => ⟨_, _, _, _, h⟩) (hs.imp (fun _ _ h => h) hk2 (fun _ h => h)) (by omega) (fun i hi cs hcs W hW => by
   subst hcs
   rw [nameIs_at hi]
   exact index1_any (w.heap.size + 1) nm ds[i] W (by rw [hW.cell (by simp)]; simp)))
 clear hs
 go_enter Tryz.func53, Tryz.ntmps53
 go_wp2_with fail
 refine HC.out.mono ?_
 rintro e w1 ⟨rfl, hb1⟩
 go_wp2
 go_ret
 exact ⟨rfl, (((Below.refl _ _).alloc (Nat.le_refl _) _).alloc (by simp) _).trans (hb1.mono (by simp; omega))⟩
set_option maxRecDepth 100000 in
set_option maxHeartbeats 1000000 in
theorem factFits_any (Z : Zone) (v vc : Value) (ds : List FactD) (c : List Int) (w : World) (hd : Facts Z w v ds) (hc : Ints Z w vc c) :
  Calls Tryz.prog 16 #[.agg #[v], vc] w fun e w' => e = .returned (.bool (fits ds c)) ∧ Below w.heap.size w w' := by
 have hd' := hd
 obtain ⟨⟨A, cap, rfl, hcap, _, hbytes, hs⟩, hfit⟩ := hd
 have hc' := hc
 obtain ⟨⟨C, ccap, rfl, hccap, hccap2, hcl, _⟩, _⟩ := hc'
 have hk1 : Keeps Z w (w.alloc (.cells #[.slice A ds.length cap] 27)) := (Keeps.refl _ _).alloc _
 have HV := hid (factValid_any Z _ ds (w.alloc (.cells #[.slice A ds.length cap] 27)) (hd'.keep hk1))
 clear hd'
 have HS := hid hs
 have HCI := hid hc
 clear hs hc
 go_enter Tryz.func16, Tryz.ntmps16
 by_cases hv : validDom ds = true
 ·by_cases hl : c.length = ds.length
  ·have HV1 := hid hv
   have hlz : ((c.length : Int) != (ds.length : Int)) = false := by simp [hl]
   have HL := hid hl
   clear hv hl
   go_wp2_with fail
   refine HV.out.mono ?_
   rintro e w1 ⟨rfl, hb1⟩
   rw [HV1.out]
   obtain ⟨hce, hfr⟩ := bcell hb1
   have hbw : Below w.heap.size w w1 := (below1 w _).trans (hb1.mono (by simp))
   clear hb1
   go_wp2
   go_loopw [21] (fun i wr => ∃ k : Nat, k ≤ ds.length ∧ i = .int .i64 k ∧ wr.cell? ⟨w.heap.size, 0, none⟩ = some (.slice A ds.length cap) ∧ Below w.heap.size w wr ∧ Hid (fitTo ds c k)) (fun i _ => ds.length - (intOf i).toNat)
   case atStart => exact ⟨0, Nat.zero_le _, rfl, by rw [hce _ _ (by simp)]; simp, hbw, fitTo_zero _ _⟩
   case round =>
    obtain ⟨k, hk, rfl, hcell, hbel, hft⟩ := hrel
    by_cases hlt : k < ds.length
    ·obtain ⟨b, off, cs, rfl, hz, hcs, rfl⟩ := HS.out.at_ hlt
     have hltc : k < c.length := by rw [HL.out]; exact hlt
     have hbs : b < w.heap.size := lt_of_cell (fact_cells hcs).1
     obtain ⟨c0, c1, c2, c3⟩ := fact_cells (cells_below hbel hbs hcs)
     clear hcs
     obtain ⟨b2, off2, rfl, hz2, hb2, hcc⟩ := HCI.out.at_ hltc
     have hcc2 := (hbel.cell (p := ⟨b2, off2 + k, none⟩) hb2).trans hcc
     have hb2r : b2 < wr.heap.size := lt_of_cell hcc2
     clear hcc
     have HNEXT := hid (fun h => fitTo_succ hft.out hlt hltc h)
     have HBAD := hid (fun h => fits_bad hlt hltc h)
     have hub : ds[k].fit := hfit ds[k] (List.getElem_mem hlt)
     generalize ds[k] = f at *
     generalize c[k] = x at *
     obtain ⟨nm, kd, lo, hi⟩ := f
     simp only at c0 c1 c2 c3
     have hkI : ((k : Nat) : Int) < (c.length : Int) := by omega
     have hk0 : (0 : Int) ≤ (k : Int) := by omega
     by_cases hlo : x < lo
     ·have hd1 : decide (x < lo) = true := by simpa using hlo
      go_wp2
      go_quiet (fail)
      go_wp2
      go_ret
      refine ⟨ret_bool (HBAD.out ?_).symm, ?_⟩
      ·unfold inR; simp only [Bool.and_eq_false_iff, decide_eq_false_iff_not]; left; omega
      ·exact below_drewN' (hbel.alloc hbel.size _) _
     ·have hd1 : decide (x < lo) = false := by simpa using hlo
      by_cases hhi : hi < x
      ·have hd2 : decide (hi < x) = true := by simpa using hhi
       go_wp2
       go_quiet (fail)
       go_wp2
       go_ret
       refine ⟨ret_bool (HBAD.out ?_).symm, ?_⟩
       ·unfold inR; simp only [Bool.and_eq_false_iff, decide_eq_false_iff_not]; right; omega
       ·exact below_drewN' (hbel.alloc hbel.size _) _
      ·have hd2 : decide (hi < x) = false := by simpa using hhi
       go_wp2
       go_quiet (fail)
       go_wp2
       go_roundw
       case rel =>
        refine ⟨k + 1, by omega, by go_num, ?_, below_drewN' (hbel.alloc hbel.size _) _, HNEXT.out ?_⟩
        ·go_simp; exact cell_alloc hcell _
        ·unfold inR; simp only [Bool.and_eq_true, decide_eq_true_eq]; omega
       case measure => simp [intOf]; omega
    ·obtain rfl : k = ds.length := by omega
     go_wp2
     go_ret
     exact ⟨ret_bool (fits_all HV1.out HL.out hft.out).symm, hbel⟩
  ·have HB : Hid (fits ds c = false) := by simp [Hid, fits, hl]
   have hlz : ((c.length : Int) != (ds.length : Int)) = true := by simp; omega
   have HV1 := hid hv
   clear hv hl
   go_wp2_with fail
   refine HV.out.mono ?_
   rintro e w1 ⟨rfl, hb1⟩
   rw [HV1.out]
   obtain ⟨hce, hfr⟩ := bcell hb1
   have hbw : Below w.heap.size w w1 := (below1 w _).trans (hb1.mono (by simp))
   clear hb1
   go_wp2
   go_ret
   exact ⟨ret_bool HB.out.symm, hbw⟩
 ·have hv' : validDom ds = false := by simpa using hv
  have HB : Hid (fits ds c = false) := by simp [Hid, fits, hv']
  have HV1 := hid hv'
  clear hv hv'
  go_wp2_with fail
  refine HV.out.mono ?_
  rintro e w1 ⟨rfl, hb1⟩
  rw [HV1.out]
  obtain ⟨hce, hfr⟩ := bcell hb1
  have hbw : Below w.heap.size w w1 := (below1 w _).trans (hb1.mono (by simp))
  clear hb1
  go_wp2
  go_ret
  exact ⟨ret_bool HB.out.symm, hbw⟩
theorem Tryz.eInt : ElemIs Tryz.prog 3 1 8 := elemIs_of (z := .int .i64 0) (by kernel_rfl) rfl (by decide)
theorem I64_of_fit {f : FactD} (h : f.fit) : I64 f.lo := h.2.2.1
set_option maxRecDepth 100000 in
set_option maxHeartbeats 1000000 in
theorem factLeast_any (Z : Zone) (v : Value) (ds : List FactD) (w : World) (hd : Facts Z w v ds) :
  Calls Tryz.prog 61 #[.agg #[v]] w fun e w' => ∃ v', e = .returned v' ∧ w'.ownsRow w.heap.size 3 1 v' (leastOf ds).length ((leastOf ds).map (.int .i64)) ∧ Below w.heap.size w w' := by
 have hd' := hd
 obtain ⟨⟨A, cap, rfl, hcap, _, hbytes, hs⟩, hfit⟩ := hd
 have hk1 : Keeps Z w (w.alloc (.cells #[.slice A ds.length cap] 27)) := (Keeps.refl _ _).alloc _
 have HV := hid (factValid_any Z _ ds (w.alloc (.cells #[.slice A ds.length cap] 27)) (hd'.keep hk1))
 clear hd'
 have HS := hid hs
 clear hs
 go_enter Tryz.func61, Tryz.ntmps61
 by_cases hv : validDom ds = true
 ·have HV1 := hid hv
  clear hv
  go_wp2_with fail
  refine HV.out.mono ?_
  rintro e w1 ⟨rfl, hb1⟩
  rw [HV1.out]
  obtain ⟨hce, hfr⟩ := bcell hb1
  have hbw : Below w.heap.size w w1 := (below1 w _).trans (hb1.mono (by simp))
  clear hb1
  go_wp2
  go_loopw [3, 12] (fun c i wr => ∃ k : Nat, k ≤ ds.length ∧ i = .int .i64 k ∧ wr.ownsRow w.heap.size 3 1 c k (((ds.take k).map FactD.lo).map (.int .i64)) ∧ Below w.heap.size w wr) (fun _ i _ => ds.length - (intOf i).toNat)
  case atStart => exact ⟨0, Nat.zero_le _, rfl, World.ownsRow_nil _ _ _ _, hbw⟩
  case round =>
   obtain ⟨k, hk, rfl, hown, hbel⟩ := hrel
   by_cases hlt : k < ds.length
   ·obtain ⟨b, off, cs, rfl, hz, hcs, rfl⟩ := HS.out.at_ hlt
    have hbs : b < w.heap.size := lt_of_cell (fact_cells hcs).1
    obtain ⟨c0, c1, c2, c3⟩ := fact_cells (cells_below hbel hbs hcs)
    clear hcs
    have HT := hid (take_succ_get hlt)
    generalize ds[k] = f at *
    obtain ⟨nm, kd, lo, hi⟩ := f
    simp only at c0 c1 c2 c3
    go_wp2_with (at_builtin; refine wpList_append1 rfl (.tmp 16) (.tmp 19) _ rfl Tryz.underlying29 Tryz.eInt rfl ((hown.alloc _).alloc _) rfl (news := [.int .i64 lo]) rfl (one_cell (by simp)) (by simp [Value.oneCell']) (by unfold maxLen; omega) (by omega) (by simp; have := hbel.size; omega) ?_; intro v1 w1 hown1 hg1 hat1)
    go_roundw
    case rel =>
     refine ⟨k + 1, by omega, by go_num, ?_, below_own (((hbel.alloc hbel.size _).alloc (by simp; have := hbel.size; omega) _)) ((hown.alloc _).alloc _) hg1 (by simp; have := hbel.size; omega) (Nat.le_refl _)⟩
     rw [HT.out]
     simpa using hown1
    case measure => simp [intOf]; omega
   ·obtain rfl : k = ds.length := by omega
    go_wp2
    go_ret
    refine ⟨_, rfl, ?_, hbel⟩
    rw [leastOf_yes HV1.out]
    simpa using hown
 ·have hv' : validDom ds = false := by simpa using hv
  have HV1 := hid hv'
  clear hv hv'
  go_wp2_with fail
  refine HV.out.mono ?_
  rintro e w1 ⟨rfl, hb1⟩
  rw [HV1.out]
  obtain ⟨hce, hfr⟩ := bcell hb1
  have hbw : Below w.heap.size w w1 := (below1 w _).trans (hb1.mono (by simp))
  clear hb1
  go_wp2
  go_ret
  refine ⟨_, rfl, ?_, hbw⟩
  rw [leastOf_no HV1.out]
  exact World.ownsRow_nil _ _ _ _
end Go.Proofs.YtcigjmlileckhaaGreatDoor
