/- Walk of diagram.given. -/
import Derived.Test.YtcigjmlileckhaaGreatDoorM29
/- Walk of diagram.given. -/
namespace Go.Proofs.YtcigjmlileckhaaGreatDoor
open Go.RowKit
set_option maxRecDepth 100000 in
set_option maxHeartbeats 2000000 in
theorem given_any (nm : ByteArray) (x : Int) (ds : List FactD) : ∀ (m : Nat) (f : Fm), fsize f ≤ m → fsize f ≤ 1000000 → ∀ (Z : Zone) (cs : List Value) (w : World), FmR Z w f cs → firstErr (checkLook ds) f = 0 →
  Calls Tryz.prog 45 #[.agg cs.toArray, .string nm, .int .i64 x] w (GivenPost Z (givenS nm x f) w) := by
 intro m
 induction m with
 | zero => intro f hm; have := fsize_pos f; omega
 | succ m ih =>
 intro f hm hM Z cs w hf hok
 have IH := hid ih
 clear ih
 obtain ⟨A, cap, rfl⟩ := FmR.form hf
 obtain ⟨h0, hks⟩ := firstErr_zero hok
 obtain ⟨hform, htest⟩ := checkLook_test h0
 obtain ⟨hkids, hkl⟩ := fmr_kids hf
 have HEV := hid (givenS_eq nm x f)
 by_cases h3 : f.op = 3
 ·by_cases hnm : f.name = nm
  ·have hnm' : (f.name.toList == nm.toList) = true := by rw [toList_beq]; simp [hnm]
   have hend : givenS nm x f = kn (cmpD x f.cmp f.num) := by rw [HEV.out, if_pos h3, if_pos hnm]
   have HK := hid (show ∀ w', Below w.heap.size w w' → GivenPost Z (givenS nm x f) w (.returned (knV (cmpD x f.cmp f.num))) w' from fun w' hw => ⟨_, rfl, by rw [hend]; exact kn_FmR _ _ _, hw⟩)
   have h3' : (f.op == (3 : Int)) = true := by simp [h3]
   have HC := hid (fun w => compare_any x f.cmp f.num w)
   generalize cmpD x f.cmp f.num = b at *
   have HN := hid (fun w => known_any b w)
   clear HEV h3 hend hf hkids hks hok hform htest h0 IH hnm
   go_enter Tryz.func45, Tryz.ntmps45
   go_wp2_with fail
   refine (HC.out _).mono ?_
   rintro e w1 ⟨rfl, rfl⟩
   dsimp only
   go_wp2_with fail
   refine (HN.out _).mono ?_
   rintro e w1 ⟨rfl, hb1⟩
   have hb0 := below_thru (below2 w _ _) hb1
   have hbl : w.heap.size + 1 < w1.heap.size := by have := hb1.size; simp at this; omega
   have HB := hid ((Blk.new (w.alloc (.cells #[.int .i64 f.op, .string f.name, .int .i64 f.cmp, .int .i64 f.num, .slice A f.kids.length cap] 24)) 24 #[.int .i64 0, .string ⟨#[]⟩, .int .i64 0, .int .i64 0, .slice none 0 0]).below hb1 (by simp))
   simp only [World.size_alloc] at HB
   have hb9 := hid hb0
   clear hb0 hb1
   unfold knV at HK
   unfold knV
   dsimp only
   go_wp2_with (refine wpList_store_blk rfl 24 _ _ rfl rfl rfl HB.out rfl Tryz.szF (by simp [Value.oneCell']) ?_; intro w2 hb2 hk2 hs2)
   obtain ⟨⟨r0, r1, r2, r3, r4⟩, -⟩ := box5 hb2
   refine bodyPost_ret (v := knV b) (by unfold knV; simp [results, Tryz.results45, go_sem, r0, r1, r2, r3, r4]; try rfl) rfl (HK.out _ (below_blk hb9.out hk2 (by omega) (by omega)))
  ·have hnm' : (f.name.toList == nm.toList) = false := by rw [toList_beq]; simp [hnm]
   have hend : givenS nm x f = f := by rw [HEV.out, if_pos h3, if_neg hnm]
   have HK := hid (show ∀ w', Below w.heap.size w w' → GivenPost Z (givenS nm x f) w (.returned (.agg #[.int .i64 f.op, .string f.name, .int .i64 f.cmp, .int .i64 f.num, .slice A f.kids.length cap])) w' from fun w' hw => ⟨_, rfl, by rw [hend]; exact FmR.mono (fun b hb => Or.inl hb) _ _ (FmR.keep (.of_below hw) _ _ hf), hw⟩)
   have h3' : (f.op == (3 : Int)) = true := by simp [h3]
   clear HEV h3 hend hf hkids hks hok hform htest h0 IH hnm
   go_enter Tryz.func45, Tryz.ntmps45
   go_wp2
   refine bodyPost_ret (v := .agg #[.int .i64 f.op, .string f.name, .int .i64 f.cmp, .int .i64 f.num, .slice A f.kids.length cap]) (by simp [results, Tryz.results45, go_sem]; try rfl) rfl (HK.out _ (by (repeat (first | exact Below.refl _ _ | assumption | refine below_drewN' ?_ _ | refine Below.drew ?_ | (refine Below.setCell ?_ (by first | exact Nat.le_refl _ | (simp; done) | (simp; omega) | omega) _) | (refine Below.alloc ?_ (by first | exact Nat.le_refl _ | (simp; done) | (simp; omega) | omega) _)))))
 ·have h3' : (f.op == (3 : Int)) = false := by simp [h3]
  by_cases h4 : f.op = 4
  ·have hl1 : f.kids.length = 1 := by
    rw [formedS_tail h3] at hform
    split at hform
    ·simp at hform
    ·simpa [h4] using hform
   obtain ⟨g, hg⟩ : ∃ g, f.kids = [g] := by
    cases hk : f.kids with
    | nil => rw [hk] at hl1; simp at hl1
    | cons x r => rw [hk] at hl1; simp at hl1; exact ⟨x, by rw [hl1]⟩
   have hle : fsize g < fsize f := by have := fsize_eq f; rw [hg] at this; simp [fsizes] at this; omega
   rw [hg] at hkids hks
   have hgk : firstErr (checkLook ds) g = 0 := firstErrs_zero hks 0 (by simp)
   obtain ⟨b, off, cs, rfl, hz, hcs, hfk, -⟩ := hkids
   have hfk' := hfk
   obtain ⟨A', cap', rfl⟩ := FmR.form hfk
   obtain ⟨c0, c1, c2, c3, c4⟩ := five_cells (fun j u hu => hcs j u hu)
   have HC := hid (fun W (h : Below w.heap.size w W) => IH.out g (by omega) (by omega) (fun b => Z b ∧ b < w.heap.size) _ W (FmR.keep (.of_below h) _ _ (FmR.live _ _ hfk')) hgk)
   have hend : givenS nm x f = notS (givenS nm x g) := by rw [HEV.out, if_neg h3, if_pos h4, hg]; simp [givenL]
   have HG := hid hend
   have hl0 : (0 : Int) < (f.kids.length : Nat) := by omega
   have hl9 : 0 < f.kids.length := by omega
   have hbl := lt_of_cell c0
   have h4' : (f.op == (4 : Int)) = true := by simp [h4]
   clear HEV h3 h4 hcs hfk hfk' hle hg hl1 hks hform htest h0 hgk hf hend
   generalize givenS nm x g = g' at *
   go_enter Tryz.func45, Tryz.ntmps45
   go_wp2_with fail
   refine (HC.out _ (below2 w _ _)).mono ?_
   rintro e w1 ⟨cs1, rfl, hg1, hb1⟩
   obtain ⟨A1, cap1, rfl⟩ := FmR.form hg1
   have hb0 := below_thru (below2 w _ _) hb1
   have hbl1 : w.heap.size + 1 < w1.heap.size := by have := hb1.size; simp at this; omega
   have HB := hid ((Blk.new (w.alloc (.cells #[.int .i64 f.op, .string f.name, .int .i64 f.cmp, .int .i64 f.num, .slice (some ⟨b, off, none⟩) f.kids.length cap] 24)) 24 #[.int .i64 0, .string ⟨#[]⟩, .int .i64 0, .int .i64 0, .slice none 0 0]).below hb1 (by simp))
   simp only [World.size_alloc] at HB
   have hb9 := hid hb0
   have HG1 := hid hg1
   clear hb0 hb1 hg1
   dsimp only
   by_cases hk12 : g'.op = 1 ∨ g'.op = 2
   ·have hK12 := hid (show notS g' = kn (g'.op == 2) from if_pos hk12)
    have hor : ((g'.op == (1 : Int)) = true ∧ (g'.op == (2 : Int)) = false) ∨ ((g'.op == (1 : Int)) = false ∧ (g'.op == (2 : Int)) = true) := by
     rcases hk12 with h | h <;> simp [h]
    have HN := hid (fun b w => known_any b w)
    clear hk12
    rcases hor with ⟨ho, ho2⟩ | ⟨ho, ho2⟩
    ·go_wp2_with fail
     refine (HN.out _ _).mono ?_
     rintro e w2 ⟨rfl, hb2⟩
     have hHB := hid (((HB.out).alloc (.cells #[.int .i64 g'.op, .string g'.name, .int .i64 g'.cmp, .int .i64 g'.num, .slice A1 g'.kids.length cap1] 24)).below hb2 (by simp; omega))
     have hb3 := hid (below_thru (hb9.out.alloc hb9.out.size _) hb2)
     have hbl2 : w.heap.size + 1 < w2.heap.size := by have := hb2.size; simp at this; omega
     clear hb2
     unfold knV
     dsimp only
     go_wp2_with (refine wpList_store_blk rfl 24 _ _ rfl rfl rfl hHB.out rfl Tryz.szF (by simp [Value.oneCell']) ?_; intro w3 hb4 hk3 hs3)
     obtain ⟨⟨r0, r1, r2, r3, r4⟩, -⟩ := box5 hb4
     refine bodyPost_ret (v := knV false) (by unfold knV; simp [results, Tryz.results45, go_sem, r0, r1, r2, r3, r4]; try rfl) rfl ⟨_, rfl, ?_, below_blk hb3.out hk3 (by omega) (by omega)⟩
     rw [HG.out, hK12.out, ho2]
     exact kn_FmR _ _ _
    ·go_wp2_with fail
     refine (HN.out _ _).mono ?_
     rintro e w2 ⟨rfl, hb2⟩
     have hHB := hid (((HB.out).alloc (.cells #[.int .i64 g'.op, .string g'.name, .int .i64 g'.cmp, .int .i64 g'.num, .slice A1 g'.kids.length cap1] 24)).below hb2 (by simp; omega))
     have hb3 := hid (below_thru (hb9.out.alloc hb9.out.size _) hb2)
     have hbl2 : w.heap.size + 1 < w2.heap.size := by have := hb2.size; simp at this; omega
     clear hb2
     unfold knV
     dsimp only
     go_wp2_with (refine wpList_store_blk rfl 24 _ _ rfl rfl rfl hHB.out rfl Tryz.szF (by simp [Value.oneCell']) ?_; intro w3 hb4 hk3 hs3)
     obtain ⟨⟨r0, r1, r2, r3, r4⟩, -⟩ := box5 hb4
     refine bodyPost_ret (v := knV true) (by unfold knV; simp [results, Tryz.results45, go_sem, r0, r1, r2, r3, r4]; try rfl) rfl ⟨_, rfl, ?_, below_blk hb3.out hk3 (by omega) (by omega)⟩
     rw [HG.out, hK12.out, ho2]
     exact kn_FmR _ _ _
   ·have hk1 : (g'.op == (1 : Int)) = false := by simp; omega
    have hk2 : (g'.op == (2 : Int)) = false := by simp; omega
    have HN := hid (show notS g' = .mk 4 ⟨#[]⟩ 0 0 [g'] from if_neg hk12)
    clear hk12
    go_wp2_with (refine wpList_store_blk rfl 24 _ _ rfl rfl rfl (((HB.out).alloc _).alloc _) rfl Tryz.szF (by simp [Value.oneCell']) ?_; intro w2 hb2 hk2 hs2)
    obtain ⟨⟨r0, r1, r2, r3, r4⟩, -⟩ := box5 hb2
    have hK : Keeps (fun b => (Z b ∨ w.heap.size ≤ b) ∧ b ≠ w.heap.size + 1) w1 w2 := (((Keeps.refl _ _).alloc _).alloc _).trans (hk2.mono (fun _ _ h => h.2))
    have hkid : w2.heap[w1.heap.size + 1]? = some (.cells #[.int .i64 g'.op, .string g'.name, .int .i64 g'.cmp, .int .i64 g'.num, .slice A1 g'.kids.length cap1] 24 (0, 0)) := by
     rw [hk2.block _ (by simp) (by omega)]
     have := heap_alloc_new (w1.alloc (.cells #[.int .i64 g'.op, .string g'.name, .int .i64 g'.cmp, .int .i64 g'.num, .slice A1 g'.kids.length cap1] 24)) (.cells #[.int .i64 g'.op, .string g'.name, .int .i64 g'.cmp, .int .i64 g'.num, .slice A1 g'.kids.length cap1] 24)
     simpa using this
    have hbel : Below w.heap.size w w2 := below_blk ((hb9.out.alloc hb9.out.size _).alloc (by simp; omega) _) hk2 (by omega) (by simp; omega)
    refine bodyPost_ret (v := .agg #[.int .i64 4, .string ⟨#[]⟩, .int .i64 0, .int .i64 0, .slice (some ⟨w1.heap.size + 1, 0, none⟩) 1 1]) (by simp [results, Tryz.results45, go_sem, r0, r1, r2, r3, r4]; try rfl) rfl ?_
    refine ⟨_, rfl, ?_, hbel⟩
    rw [HG.out, HN.out]
    have hlive := FmR.mono (Z' := fun b => (Z b ∨ w.heap.size ≤ b) ∧ b ≠ w.heap.size + 1) (fun b hb => by
     obtain ⟨h1, h2⟩ := hb
     rcases h1 with ⟨h1, h3⟩ | h1
     ·exact ⟨Or.inl h1, by omega⟩
     ·simp at h1; exact ⟨Or.inr (by omega), by omega⟩) _ _ (FmR.live _ _ HG1.out)
    have hkk := FmR.keep hK _ _ hlive
    have hkm := FmR.mono (Z' := fun b => Z b ∨ w.heap.size ≤ b) (fun b hb => hb.1) _ _ hkk
    unfold FmR
    refine ⟨by simp [I64], by decide, by simp [I64], by simp [I64], _, 1, rfl, Nat.le_refl _, by decide, by simp, ?_⟩
    unfold FmsR
    refine ⟨_, _, _, rfl, Or.inr (by omega), fun j u hu => ?_, hkm, by unfold FmsR; trivial⟩
    rw [cell_of_row w2 _ _ _ _ _ hkid]
    simpa using hu
  ·have h4' : (f.op == (4 : Int)) = false := by simp [h4]
   by_cases h56 : f.op = 5 ∨ f.op = 6
   ·by_cases h5 : f.op = 5
    ·exact givenAnd_any nm x ds m IH.out f hm hM Z A cap w hf hok h5
    ·exact givenOr_any nm x ds m IH.out f hm hM Z A cap w hf hok (by omega)
   ·have h5' : (f.op == (5 : Int)) = false := by simp; omega
    have h6' : (f.op == (6 : Int)) = false := by simp; omega
    have hend : givenS nm x f = f := by rw [HEV.out, if_neg h3, if_neg h4, if_neg h56]
    have HK := hid (show ∀ w', Below w.heap.size w w' → GivenPost Z (givenS nm x f) w (.returned (.agg #[.int .i64 f.op, .string f.name, .int .i64 f.cmp, .int .i64 f.num, .slice A f.kids.length cap])) w' from fun w' hw => ⟨_, rfl, by rw [hend]; exact FmR.mono (fun b hb => Or.inl hb) _ _ (FmR.keep (.of_below hw) _ _ hf), hw⟩)
    clear HEV h3 h4 h56 hend hf hkids hks hok hform htest h0 IH
    go_enter Tryz.func45, Tryz.ntmps45
    go_wp2
    refine bodyPost_ret (v := .agg #[.int .i64 f.op, .string f.name, .int .i64 f.cmp, .int .i64 f.num, .slice A f.kids.length cap]) (by simp [results, Tryz.results45, go_sem]; try rfl) rfl (HK.out _ (by (repeat (first | exact Below.refl _ _ | assumption | refine below_drewN' ?_ _ | refine Below.drew ?_ | (refine Below.setCell ?_ (by first | exact Nat.le_refl _ | (simp; done) | (simp; omega) | omega) _) | (refine Below.alloc ?_ (by first | exact Nat.le_refl _ | (simp; done) | (simp; omega) | omega) _)))))
end Go.Proofs.YtcigjmlileckhaaGreatDoor
