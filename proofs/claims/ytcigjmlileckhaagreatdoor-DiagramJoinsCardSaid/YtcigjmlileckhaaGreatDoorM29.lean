/- Walk of diagram.given: all, any. -/
import Derived.Test.YtcigjmlileckhaaGreatDoorM24
/- Walk of diagram.given: all, any. -/
namespace Go.Proofs.YtcigjmlileckhaaGreatDoor
open Go.RowKit
set_option maxRecDepth 100000 in
set_option maxHeartbeats 2000000 in
theorem givenAnd_any (nm : ByteArray) (x : Int) (ds : List FactD) (m : Nat) (ih : GivenIH nm x ds m) (f : Fm) (hm : fsize f ≤ m + 1) (hM : fsize f ≤ 1000000) (Z : Zone) (A : Option Addr) (cap : Nat) (w : World) (hf : FmR Z w f [.int .i64 f.op, .string f.name, .int .i64 f.cmp, .int .i64 f.num, .slice A f.kids.length cap]) (hok : firstErr (checkLook ds) f = 0) (h5 : f.op = 5) :
  Calls Tryz.prog 45 #[.agg [.int .i64 f.op, .string f.name, .int .i64 f.cmp, .int .i64 f.num, .slice A f.kids.length cap].toArray, .string nm, .int .i64 x] w (GivenPost Z (givenS nm x f) w) := by
 have IH := hid ih
 clear ih
 obtain ⟨h0, hks⟩ := firstErr_zero hok
 obtain ⟨hkids, hkl⟩ := fmr_kids hf
 have hkM : f.kids.length ≤ 1000000 := by have := length_le_fsizes f.kids; have := fsize_eq f; omega
 have hlen : (givenL nm x f.kids).length = f.kids.length := by rw [givenL_map]; simp
 have hget : ∀ k (hk : k < f.kids.length) (hk' : k < (givenL nm x f.kids).length), (givenL nm x f.kids)[k] = givenS nm x f.kids[k] := fun k hk hk' => by simp [givenL_map]
 have hend : givenS nm x f = joinS 5 (givenL nm x f.kids) := by rw [givenS_eq, if_neg (by omega), if_neg (by omega), if_pos (by omega), h5]
 have HG := hid hend
 have HKS := hid hks
 have HHG := hid hget
 have HS := hid hkids
 have HLT := hid (fun (k : Nat) (hk : k < f.kids.length) => fsize_kid hk)
 have HLL := hid hlen
 clear hks hkids h0 hf hend hget hlen hok
 generalize givenL nm x f.kids = ks at *
 go_enter Tryz.func45, Tryz.ntmps45
 go_wp2
 go_loopw [10, 12, 63] (fun v _ i wr => ∃ k : Nat, k ≤ f.kids.length ∧ i = .int .i64 k ∧ (∀ j (hj : j < ks.length), j < k → ks[j].op ≠ zeroS 5) ∧ KidsOwn (fun b => (Z b ∧ b < w.heap.size) ∨ w.heap.size + 2 ≤ b) (w.heap.size + 2) wr v (keptS 5 (ks.take k)) ∧ (Blk wr (w.heap.size + 1) 24 #[.int .i64 0, .string ⟨#[]⟩, .int .i64 0, .int .i64 0, .slice none 0 0] ∧ Blk wr w.heap.size 24 #[.int .i64 5, .string f.name, .int .i64 f.cmp, .int .i64 f.num, .slice A f.kids.length cap]) ∧ Below w.heap.size w wr ∧ w.heap.size + 2 ≤ wr.heap.size) (fun _ _ i _ => f.kids.length - (intOf i).toNat)
 case atStart =>
  refine ⟨0, Nat.zero_le _, rfl, fun j _ h => absurd h (Nat.not_lt_zero _), KidsOwn.nil _ _ _, ?_, below2 w _ _, by simp⟩
  have := Blk.new (w.alloc (.cells #[.int .i64 f.op, .string f.name, .int .i64 f.cmp, .int .i64 f.num, .slice A f.kids.length cap] 24)) 24 #[.int .i64 0, .string ⟨#[]⟩, .int .i64 0, .int .i64 0, .slice none 0 0]
  simp only [World.size_alloc] at this
  have that := (Blk.new w 24 #[.int .i64 f.op, .string f.name, .int .i64 f.cmp, .int .i64 f.num, .slice A f.kids.length cap]).alloc (.cells #[.int .i64 0, .string ⟨#[]⟩, .int .i64 0, .int .i64 0, .slice none 0 0] 24)
  rw [h5] at this that
  exact ⟨this, that⟩
 case round =>
  obtain ⟨k, hk, rfl, hnz, hown, hblk, hbel, hsz⟩ := hrel
  obtain ⟨oA, ocap, rfl, -, -, -⟩ := KidsOwn.done hown
  by_cases hlt : k < f.kids.length
  ·obtain ⟨b, off, cs, rfl, hz, hcs, hfk⟩ := HS.out.at_ hlt
   have hlv := FmR.live _ _ hfk
   obtain ⟨A', cap', rfl⟩ := FmR.form hfk
   obtain ⟨c0, c1, c2, c3, c4⟩ := five_cells (fun j u hu => (Keeps.of_below (Z := Z) hbel).cell (p := ⟨b, off + k * 5 + j, none⟩) hz (hcs j u hu))
   have HC := hid (fun W (h : Below w.heap.size w W) => IH.out f.kids[k] (by have := HLT.out k hlt; omega) (by have := HLT.out k hlt; omega) (fun b => Z b ∧ b < w.heap.size) _ W (FmR.keep (.of_below h) _ _ hlv) (firstErrs_zero HKS.out k hlt))
   have hkk : k < ks.length := by have := HLL.out; omega
   rw [← HHG.out k hlt hkk] at HC
   have HO := hid (And.intro hown (And.intro hblk hbel))
   have HNZ := hid hnz
   have HTU := hid (@keptS_unit 5 ks k hkk)
   have HTK := hid (@keptS_keep 5 ks k hkk)
   have HJZ := hid (@joinS_zero 5 ks k hkk hnz)
   have HTL := hid (@keptS_len 5 ks k)
   clear hcs hfk hlv hown hblk hbel hnz
   generalize f.kids[k] = g at *
   generalize hgg : ks[k] = g' at *
   have HGG := hid hgg
   clear hgg
   go_wp2_with fail
   refine (HC.out _ (HO.out.2.2.alloc HO.out.2.2.size _)).mono ?_
   rintro e w1 ⟨cs1, rfl, hg1, hb1⟩
   obtain ⟨A1, cap1, rfl⟩ := FmR.form hg1
   have hbl1 : wr.heap.size < w1.heap.size := by have := hb1.size; simp at this; omega
   have hT := hid ((Blk.new wr 24 #[.int .i64 g.op, .string g.name, .int .i64 g.cmp, .int .i64 g.num, .slice A' g.kids.length cap']).below hb1 (by simp))
   have hQ := hid ((HO.out.2.1.2.alloc (.cells #[.int .i64 g.op, .string g.name, .int .i64 g.cmp, .int .i64 g.num, .slice A' g.kids.length cap'] 24)).below hb1 (by simp; omega))
   have hR := hid ((HO.out.2.1.1.alloc (.cells #[.int .i64 g.op, .string g.name, .int .i64 g.cmp, .int .i64 g.num, .slice A' g.kids.length cap'] 24)).below hb1 (by simp; omega))
   have hB := hid (below_thru (HO.out.2.2.alloc HO.out.2.2.size _) hb1)
   have hOw := hid (HO.out.1.below (below_thru (below1 wr _) hb1))
   have hb12 := hid (below_thru (below1 wr _) hb1)
   have hG1 := hid (FmR.live _ _ hg1)
   have hWs : (wr.alloc (.cells #[.int .i64 g.op, .string g.name, .int .i64 g.cmp, .int .i64 g.num, .slice A' g.kids.length cap'] 24)).heap.size = wr.heap.size + 1 := by simp
   rw [hWs] at hG1
   clear hg1 hb1 hWs
   dsimp only
   have eZ : zeroS 5 = 2 := by decide
   have eU : unitS 5 = 1 := by decide
   rw [eZ] at HJZ HNZ
   rw [eU] at HTU HTK
   by_cases hz' : g'.op = 2
   ·have hz0 : (g'.op == (2 : Int)) = true := by simp [hz']
    have hz1 : (g'.op == (1 : Int)) = false := by simp [hz']
    have HJ := hid (HJZ.out hz')
    clear HJZ HTU HTK
    have hsz1 : w.heap.size + 1 < wr.heap.size := by omega
    go_wp2_with (first | (refine wpList_store_blk rfl 24 _ _ rfl rfl rfl hT.out rfl Tryz.szF (by simp [Value.oneCell']) ?_; intro w2 hb2 hk2 hs2; obtain ⟨⟨r0, r1, r2, r3, r4⟩, -⟩ := box5 hb2; have hR2 := hR.out.keep hk2 (by show w.heap.size + 1 ≠ wr.heap.size; omega)) | (refine wpList_store_blk rfl 24 _ _ rfl rfl rfl hR2 rfl Tryz.szF (by simp [Value.oneCell']) ?_; intro w3 hb3 hk3 hs3; obtain ⟨⟨s0, s1, s2, s3, s4⟩, -⟩ := box5 hb3))
    refine bodyPost_ret (v := .agg #[.int .i64 g'.op, .string g'.name, .int .i64 g'.cmp, .int .i64 g'.num, .slice A1 g'.kids.length cap1]) (by simp [results, Tryz.results45, go_sem, s0, s1, s2, s3, s4]; try exact hz'.symm) rfl ⟨_, rfl, ?_, below_blk (below_blk hB.out hk2 (by omega) hB.out.size) hk3 (by omega) (by rw [hs2]; exact hB.out.size)⟩
    rw [HG.out, HJ.out]
    refine FmR.mono (fun b hb => ?_) _ _ (FmR.keep ((hk2.mono (fun b _ hb => ?_)).trans (hk3.mono (fun b _ hb => ?_))) _ _ hG1.out)
    ·rcases hb.1 with h | h
     ·exact Or.inl h.1
     ·exact Or.inr (by omega)
    ·rcases hb.1 with h | h <;> omega
    ·rcases hb.1 with h | h <;> omega
   ·have hz0 : (g'.op == (2 : Int)) = false := by simp [hz']
    by_cases hu' : g'.op = 1
    ·have hu0 : (g'.op == (1 : Int)) = true := by simp [hu']
     have HT := hid (HTU.out hu')
     clear HJZ HTU HTK hu'
     have HZ := hid hz'
     clear hz'
     go_wp2_with (refine wpList_store_blk rfl 24 _ _ rfl rfl rfl hT.out rfl Tryz.szF (by simp [Value.oneCell']) ?_; intro w2 hb2 hk2 hs2; obtain ⟨⟨r0, r1, r2, r3, r4⟩, -⟩ := box5 hb2)
     refine ⟨⟨_, _, _, ⟨k + 1, by omega, rfl, ?_, ?_, ?_, ?_, by omega⟩, rfl, rfl, by simp⟩, by simp [intOf]; omega⟩
     ·intro j hj hjk
      rcases Nat.lt_or_ge j k with h | h
      ·exact HNZ.out j hj h
      ·obtain rfl : j = k := by omega
       rw [HGG.out]; exact HZ.out
     ·rw [HT.out]
      exact HO.out.1.below (below_blk hb12.out hk2 (Nat.le_refl _) hb12.out.size)
     ·exact ⟨hR.out.keep hk2 (by show w.heap.size + 1 ≠ wr.heap.size; omega), hQ.out.keep hk2 (by show w.heap.size ≠ wr.heap.size; omega)⟩
     ·exact below_blk hB.out hk2 (by omega) hB.out.size
    ·have hu0 : (g'.op == (1 : Int)) = false := by simp [hu']
     have HT := hid (HTK.out hu')
     clear HJZ HTU HTK hu'
     have HZ := hid hz'
     clear hz'
     have htl := HTL.out
     have hll := HLL.out
     go_wp2_with (first | (refine wpList_store_blk rfl 24 _ _ rfl rfl rfl hT.out rfl Tryz.szF (by simp [Value.oneCell']) ?_; intro w2 hb2 hk2 hs2; obtain ⟨⟨r0, r1, r2, r3, r4⟩, -⟩ := box5 hb2; obtain ⟨csl, how1, how2⟩ := HO.out.1.below (below_blk hb12.out hk2 (Nat.le_refl _) hb12.out.size)) | (at_builtin; refine wpList_append1 rfl (.tmp 73) (.tmp 75) _ rfl Tryz.underlying22 Tryz.eFm rfl (how1.alloc _) rfl (news := [.int .i64 g'.op, .string g'.name, .int .i64 g'.cmp, .int .i64 g'.num, .slice A1 g'.kids.length cap1]) rfl (blk_cells (W := w2.alloc (.cells #[.int .i64 g'.op, .string g'.name, .int .i64 g'.cmp, .int .i64 g'.num, .slice A1 g'.kids.length cap1] 24)) (g := w1.heap.size) (t := 24) (by have := Blk.new w2 24 #[.int .i64 g'.op, .string g'.name, .int .i64 g'.cmp, .int .i64 g'.num, .slice A1 g'.kids.length cap1]; rwa [hs2] at this)) (by simp [Value.oneCell']) (by unfold maxLen; omega) (by omega) (by simp; omega) ?_; intro v1 w5 hown5 hg5 hat5))
     refine ⟨⟨_, _, _, ⟨k + 1, by omega, rfl, ?_, ?_, ?_, ?_, ?_⟩, rfl, rfl, by simp⟩, by simp [intOf]; omega⟩
     ·intro j hj hjk
      rcases Nat.lt_or_ge j k with h | h
      ·exact HNZ.out j (by omega) h
      ·obtain rfl : j = k := by omega
       rw [HGG.out]; exact HZ.out
     ·rw [HT.out]
      refine KidsOwn.grow (FmL.mono (fun b hb => ⟨hb.1, Nat.lt_of_lt_of_le hb.2.1 (by simp), hb.2.2⟩) (FmL.keep (.alloc (.refl _ _) _) how2)) ?_ hown5 hg5 hat5
      refine FmR.mono (fun b hb => ?_) _ _ (FmR.keep ((hk2.mono (fun b _ hb => ?_)).trans (.alloc (.refl _ _) _)) _ _ hG1.out)
      ·refine ⟨?_, by simp; omega, fun e => ?_⟩
       ·rcases hb.1 with h | h
        ·exact Or.inl h
        ·exact Or.inr (by omega)
       ·obtain ⟨csl0, how0, -⟩ := HO.out.1
        have := how0.lt b e
        rcases hb.1 with h | h <;> omega
      ·rcases hb.1 with h | h <;> omega
     ·refine ⟨(((hR.out.keep hk2 (by show w.heap.size + 1 ≠ wr.heap.size; omega)).alloc _).of_block (hg5.block _ (by simp; omega) fun e => ?_)), (((hQ.out.keep hk2 (by show w.heap.size ≠ wr.heap.size; omega)).alloc _).of_block (hg5.block _ (by simp; omega) fun e => ?_))⟩
      ·have := how1.lt _ e.symm
       omega
      ·have := how1.lt _ e.symm
       omega
     ·exact below_own ((below_blk hB.out hk2 (by omega) hB.out.size).alloc (by have := hB.out.size; omega) _) (how1.alloc _) hg5 (by simp; have := hB.out.size; omega) (by omega)
     ·have := hg5.size; simp at this; omega
  ·obtain rfl : k = f.kids.length := by omega
   have hk9 : ks.take f.kids.length = ks := by rw [← HLL.out]; exact List.take_length
   rw [hk9] at hown
   have hj := @joinS_end 5 ks (fun j hj => hnz j hj (by have := HLL.out; omega))
   rw [← HG.out] at hj
   obtain ⟨oA', ocap2, heq, hcap, hmax, hfm⟩ := KidsOwn.done hown
   injection heq with q1 q2 q3
   subst q1 q3
   have htl := keptS_len (op := 5) (ks := ks) f.kids.length
   rw [hk9] at htl
   have hll := HLL.out
   have HBEL := hid hbel
   have HBLK := hid hblk.1
   obtain ⟨⟨p0, p1, p2, p3, p4⟩, -⟩ := box5 hblk.2
   have HCAP := hid (And.intro hcap hmax)
   rw [show keptS 5 (List.take f.kids.length ks) = keptS 5 ks from by rw [hk9]]
   have hkl := hkM
   clear hown hk9 hnz hbel hblk hcap hmax q2 hkM hk
   have hZ : ∀ w2 : World, Keeps (fun b => b ≠ w.heap.size + 1) wr w2 → Keeps (fun b => ((Z b ∧ b < w.heap.size) ∨ w.heap.size + 2 ≤ b) ∨ w.heap.size + 2 ≤ b) wr w2 := fun w2 h => h.mono fun b _ hb => by
    rcases hb with (h | h) | h
    ·have := h.2; omega
    ·omega
    ·omega
   have h2 : ∀ b, (((Z b ∧ b < w.heap.size) ∨ w.heap.size + 2 ≤ b) ∨ w.heap.size + 2 ≤ b) → (Z b ∨ w.heap.size ≤ b) := fun b hb => by
    rcases hb with (h | h) | h
    ·exact Or.inl h.1
    ·exact Or.inr (by omega)
    ·exact Or.inr (by omega)
   have HZ := hid hZ
   have H2 := hid h2
   clear hZ h2
   cases hkc : keptS 5 ks with
   | nil =>
    rw [hkc] at hj
    have HJ := hid hj
    clear hkc hj hfm
    go_wp2_with (refine wpList_store_blk rfl 24 _ _ rfl rfl rfl HBLK.out rfl Tryz.szF (by simp [Value.oneCell']) ?_; intro w2 hb2 hk2 hs2; obtain ⟨⟨r0, r1, r2, r3, r4⟩, -⟩ := box5 hb2)
    refine bodyPost_ret (v := .agg #[.int .i64 1, .string ⟨#[]⟩, .int .i64 0, .int .i64 0, .slice none 0 0]) (by simp [results, Tryz.results45, go_sem, r0, r1, r2, r3, r4]) rfl ⟨_, rfl, ?_, below_blk HBEL.out hk2 (by omega) HBEL.out.size⟩
    rw [HJ.out]
    unfold FmR
    exact ⟨by simp [I64, unitS], by decide, by simp [I64], by simp [I64], none, 0, rfl, Nat.le_refl _, by decide, by decide, by unfold FmsR; trivial⟩
   | cons k0 r =>
    rw [hkc] at hj htl hfm HCAP
    cases r with
    | nil =>
     have HJ := hid hj
     unfold FmsR at hfm
     obtain ⟨b, off, cs, rfl, hz, hcs, hfk, -⟩ := hfm
     have HFK := hid hfk
     obtain ⟨A', cap', rfl⟩ := FmR.form hfk
     obtain ⟨c0, c1, c2, c3, c4⟩ := five_cells (fun j u hu => hcs j u hu)
     clear hkc hj hcs hfk htl
     simp only [List.length_cons, List.length_nil, Nat.zero_add]
     go_wp2_with (refine wpList_store_blk rfl 24 _ _ rfl rfl rfl HBLK.out rfl Tryz.szF (by simp [Value.oneCell']) ?_; intro w2 hb2 hk2 hs2; obtain ⟨⟨r0, r1, r2, r3, r4⟩, -⟩ := box5 hb2)
     refine bodyPost_ret (v := .agg #[.int .i64 k0.op, .string k0.name, .int .i64 k0.cmp, .int .i64 k0.num, .slice A' k0.kids.length cap']) (by simp [results, Tryz.results45, go_sem, r0, r1, r2, r3, r4]) rfl ⟨_, rfl, ?_, below_blk HBEL.out hk2 (by omega) HBEL.out.size⟩
     rw [HJ.out]
     exact FmR.mono H2.out _ _ (FmR.keep (HZ.out _ hk2) _ _ HFK.out)
    | cons k1 r =>
     have HJ := hid (hj.trans (show _ = Fm.mk 5 ⟨#[]⟩ 0 0 (k0 :: k1 :: r) from rfl))
     have HFM := hid hfm
     have hl2 : 2 ≤ (k0 :: k1 :: r).length := by simp
     clear hkc hj hfm
     generalize hlen2 : k0 :: k1 :: r = l at *
     have HLEN := hid hlen2
     clear hlen2
     have hz0 : ((l.length : Int) == 0) = false := by simp; intro e; rw [e] at hl2; simp at hl2
     have hz1 : ((l.length : Int) == 1) = false := by simp; omega
     go_wp2_with (refine wpList_store_blk rfl 24 _ _ rfl rfl rfl HBLK.out rfl Tryz.szF (by simp [Value.oneCell']) ?_; intro w2 hb2 hk2 hs2; obtain ⟨⟨r0, r1, r2, r3, r4⟩, -⟩ := box5 hb2)
     refine bodyPost_ret (v := .agg #[.int .i64 5, .string ⟨#[]⟩, .int .i64 0, .int .i64 0, .slice oA l.length ocap]) (by simp [results, Tryz.results45, go_sem, r0, r1, r2, r3, r4]) rfl ⟨_, rfl, ?_, below_blk HBEL.out hk2 (by omega) HBEL.out.size⟩
     rw [HJ.out]
     unfold FmR
     exact ⟨by simp [I64], by decide, by simp [I64], by simp [I64], oA, ocap, rfl, HCAP.out.1, by have := HCAP.out.2; unfold maxLen at this; omega, by omega, FmsR.mono H2.out _ _ (FmsR.keep (HZ.out _ hk2) _ _ HFM.out)⟩
set_option maxRecDepth 100000 in
set_option maxHeartbeats 2000000 in
theorem givenOr_any (nm : ByteArray) (x : Int) (ds : List FactD) (m : Nat) (ih : GivenIH nm x ds m) (f : Fm) (hm : fsize f ≤ m + 1) (hM : fsize f ≤ 1000000) (Z : Zone) (A : Option Addr) (cap : Nat) (w : World) (hf : FmR Z w f [.int .i64 f.op, .string f.name, .int .i64 f.cmp, .int .i64 f.num, .slice A f.kids.length cap]) (hok : firstErr (checkLook ds) f = 0) (h5 : f.op = 6) :
  Calls Tryz.prog 45 #[.agg [.int .i64 f.op, .string f.name, .int .i64 f.cmp, .int .i64 f.num, .slice A f.kids.length cap].toArray, .string nm, .int .i64 x] w (GivenPost Z (givenS nm x f) w) := by
 have IH := hid ih
 clear ih
 obtain ⟨h0, hks⟩ := firstErr_zero hok
 obtain ⟨hkids, hkl⟩ := fmr_kids hf
 have hkM : f.kids.length ≤ 1000000 := by have := length_le_fsizes f.kids; have := fsize_eq f; omega
 have hlen : (givenL nm x f.kids).length = f.kids.length := by rw [givenL_map]; simp
 have hget : ∀ k (hk : k < f.kids.length) (hk' : k < (givenL nm x f.kids).length), (givenL nm x f.kids)[k] = givenS nm x f.kids[k] := fun k hk hk' => by simp [givenL_map]
 have hend : givenS nm x f = joinS 6 (givenL nm x f.kids) := by rw [givenS_eq, if_neg (by omega), if_neg (by omega), if_pos (by omega), h5]
 have HG := hid hend
 have HKS := hid hks
 have HHG := hid hget
 have HS := hid hkids
 have HLT := hid (fun (k : Nat) (hk : k < f.kids.length) => fsize_kid hk)
 have HLL := hid hlen
 clear hks hkids h0 hf hend hget hlen hok
 generalize givenL nm x f.kids = ks at *
 go_enter Tryz.func45, Tryz.ntmps45
 go_wp2
 go_loopw [10, 12, 63] (fun v _ i wr => ∃ k : Nat, k ≤ f.kids.length ∧ i = .int .i64 k ∧ (∀ j (hj : j < ks.length), j < k → ks[j].op ≠ zeroS 6) ∧ KidsOwn (fun b => (Z b ∧ b < w.heap.size) ∨ w.heap.size + 2 ≤ b) (w.heap.size + 2) wr v (keptS 6 (ks.take k)) ∧ (Blk wr (w.heap.size + 1) 24 #[.int .i64 0, .string ⟨#[]⟩, .int .i64 0, .int .i64 0, .slice none 0 0] ∧ Blk wr w.heap.size 24 #[.int .i64 6, .string f.name, .int .i64 f.cmp, .int .i64 f.num, .slice A f.kids.length cap]) ∧ Below w.heap.size w wr ∧ w.heap.size + 2 ≤ wr.heap.size) (fun _ _ i _ => f.kids.length - (intOf i).toNat)
 case atStart =>
  refine ⟨0, Nat.zero_le _, rfl, fun j _ h => absurd h (Nat.not_lt_zero _), KidsOwn.nil _ _ _, ?_, below2 w _ _, by simp⟩
  have := Blk.new (w.alloc (.cells #[.int .i64 f.op, .string f.name, .int .i64 f.cmp, .int .i64 f.num, .slice A f.kids.length cap] 24)) 24 #[.int .i64 0, .string ⟨#[]⟩, .int .i64 0, .int .i64 0, .slice none 0 0]
  simp only [World.size_alloc] at this
  have that := (Blk.new w 24 #[.int .i64 f.op, .string f.name, .int .i64 f.cmp, .int .i64 f.num, .slice A f.kids.length cap]).alloc (.cells #[.int .i64 0, .string ⟨#[]⟩, .int .i64 0, .int .i64 0, .slice none 0 0] 24)
  rw [h5] at this that
  exact ⟨this, that⟩
 case round =>
  obtain ⟨k, hk, rfl, hnz, hown, hblk, hbel, hsz⟩ := hrel
  obtain ⟨oA, ocap, rfl, -, -, -⟩ := KidsOwn.done hown
  by_cases hlt : k < f.kids.length
  ·obtain ⟨b, off, cs, rfl, hz, hcs, hfk⟩ := HS.out.at_ hlt
   have hlv := FmR.live _ _ hfk
   obtain ⟨A', cap', rfl⟩ := FmR.form hfk
   obtain ⟨c0, c1, c2, c3, c4⟩ := five_cells (fun j u hu => (Keeps.of_below (Z := Z) hbel).cell (p := ⟨b, off + k * 5 + j, none⟩) hz (hcs j u hu))
   have HC := hid (fun W (h : Below w.heap.size w W) => IH.out f.kids[k] (by have := HLT.out k hlt; omega) (by have := HLT.out k hlt; omega) (fun b => Z b ∧ b < w.heap.size) _ W (FmR.keep (.of_below h) _ _ hlv) (firstErrs_zero HKS.out k hlt))
   have hkk : k < ks.length := by have := HLL.out; omega
   rw [← HHG.out k hlt hkk] at HC
   have HO := hid (And.intro hown (And.intro hblk hbel))
   have HNZ := hid hnz
   have HTU := hid (@keptS_unit 6 ks k hkk)
   have HTK := hid (@keptS_keep 6 ks k hkk)
   have HJZ := hid (@joinS_zero 6 ks k hkk hnz)
   have HTL := hid (@keptS_len 6 ks k)
   clear hcs hfk hlv hown hblk hbel hnz
   generalize f.kids[k] = g at *
   generalize hgg : ks[k] = g' at *
   have HGG := hid hgg
   clear hgg
   go_wp2_with fail
   refine (HC.out _ (HO.out.2.2.alloc HO.out.2.2.size _)).mono ?_
   rintro e w1 ⟨cs1, rfl, hg1, hb1⟩
   obtain ⟨A1, cap1, rfl⟩ := FmR.form hg1
   have hbl1 : wr.heap.size < w1.heap.size := by have := hb1.size; simp at this; omega
   have hT := hid ((Blk.new wr 24 #[.int .i64 g.op, .string g.name, .int .i64 g.cmp, .int .i64 g.num, .slice A' g.kids.length cap']).below hb1 (by simp))
   have hQ := hid ((HO.out.2.1.2.alloc (.cells #[.int .i64 g.op, .string g.name, .int .i64 g.cmp, .int .i64 g.num, .slice A' g.kids.length cap'] 24)).below hb1 (by simp; omega))
   have hR := hid ((HO.out.2.1.1.alloc (.cells #[.int .i64 g.op, .string g.name, .int .i64 g.cmp, .int .i64 g.num, .slice A' g.kids.length cap'] 24)).below hb1 (by simp; omega))
   have hB := hid (below_thru (HO.out.2.2.alloc HO.out.2.2.size _) hb1)
   have hOw := hid (HO.out.1.below (below_thru (below1 wr _) hb1))
   have hb12 := hid (below_thru (below1 wr _) hb1)
   have hG1 := hid (FmR.live _ _ hg1)
   have hWs : (wr.alloc (.cells #[.int .i64 g.op, .string g.name, .int .i64 g.cmp, .int .i64 g.num, .slice A' g.kids.length cap'] 24)).heap.size = wr.heap.size + 1 := by simp
   rw [hWs] at hG1
   clear hg1 hb1 hWs
   dsimp only
   have eZ : zeroS 6 = 1 := by decide
   have eU : unitS 6 = 2 := by decide
   rw [eZ] at HJZ HNZ
   rw [eU] at HTU HTK
   by_cases hz' : g'.op = 1
   ·have hz0 : (g'.op == (1 : Int)) = true := by simp [hz']
    have hz1 : (g'.op == (2 : Int)) = false := by simp [hz']
    have HJ := hid (HJZ.out hz')
    clear HJZ HTU HTK
    have hsz1 : w.heap.size + 1 < wr.heap.size := by omega
    go_wp2_with (first | (refine wpList_store_blk rfl 24 _ _ rfl rfl rfl hT.out rfl Tryz.szF (by simp [Value.oneCell']) ?_; intro w2 hb2 hk2 hs2; obtain ⟨⟨r0, r1, r2, r3, r4⟩, -⟩ := box5 hb2; have hR2 := hR.out.keep hk2 (by show w.heap.size + 1 ≠ wr.heap.size; omega)) | (refine wpList_store_blk rfl 24 _ _ rfl rfl rfl hR2 rfl Tryz.szF (by simp [Value.oneCell']) ?_; intro w3 hb3 hk3 hs3; obtain ⟨⟨s0, s1, s2, s3, s4⟩, -⟩ := box5 hb3))
    refine bodyPost_ret (v := .agg #[.int .i64 g'.op, .string g'.name, .int .i64 g'.cmp, .int .i64 g'.num, .slice A1 g'.kids.length cap1]) (by simp [results, Tryz.results45, go_sem, s0, s1, s2, s3, s4]; try exact hz'.symm) rfl ⟨_, rfl, ?_, below_blk (below_blk hB.out hk2 (by omega) hB.out.size) hk3 (by omega) (by rw [hs2]; exact hB.out.size)⟩
    rw [HG.out, HJ.out]
    refine FmR.mono (fun b hb => ?_) _ _ (FmR.keep ((hk2.mono (fun b _ hb => ?_)).trans (hk3.mono (fun b _ hb => ?_))) _ _ hG1.out)
    ·rcases hb.1 with h | h
     ·exact Or.inl h.1
     ·exact Or.inr (by omega)
    ·rcases hb.1 with h | h <;> omega
    ·rcases hb.1 with h | h <;> omega
   ·have hz0 : (g'.op == (1 : Int)) = false := by simp [hz']
    by_cases hu' : g'.op = 2
    ·have hu0 : (g'.op == (2 : Int)) = true := by simp [hu']
     have HT := hid (HTU.out hu')
     clear HJZ HTU HTK hu'
     have HZ := hid hz'
     clear hz'
     go_wp2_with (refine wpList_store_blk rfl 24 _ _ rfl rfl rfl hT.out rfl Tryz.szF (by simp [Value.oneCell']) ?_; intro w2 hb2 hk2 hs2; obtain ⟨⟨r0, r1, r2, r3, r4⟩, -⟩ := box5 hb2)
     refine ⟨⟨_, _, _, ⟨k + 1, by omega, rfl, ?_, ?_, ?_, ?_, by omega⟩, rfl, rfl, by simp⟩, by simp [intOf]; omega⟩
     ·intro j hj hjk
      rcases Nat.lt_or_ge j k with h | h
      ·exact HNZ.out j hj h
      ·obtain rfl : j = k := by omega
       rw [HGG.out]; exact HZ.out
     ·rw [HT.out]
      exact HO.out.1.below (below_blk hb12.out hk2 (Nat.le_refl _) hb12.out.size)
     ·exact ⟨hR.out.keep hk2 (by show w.heap.size + 1 ≠ wr.heap.size; omega), hQ.out.keep hk2 (by show w.heap.size ≠ wr.heap.size; omega)⟩
     ·exact below_blk hB.out hk2 (by omega) hB.out.size
    ·have hu0 : (g'.op == (2 : Int)) = false := by simp [hu']
     have HT := hid (HTK.out hu')
     clear HJZ HTU HTK hu'
     have HZ := hid hz'
     clear hz'
     have htl := HTL.out
     have hll := HLL.out
     go_wp2_with (first | (refine wpList_store_blk rfl 24 _ _ rfl rfl rfl hT.out rfl Tryz.szF (by simp [Value.oneCell']) ?_; intro w2 hb2 hk2 hs2; obtain ⟨⟨r0, r1, r2, r3, r4⟩, -⟩ := box5 hb2; obtain ⟨csl, how1, how2⟩ := HO.out.1.below (below_blk hb12.out hk2 (Nat.le_refl _) hb12.out.size)) | (at_builtin; refine wpList_append1 rfl (.tmp 73) (.tmp 75) _ rfl Tryz.underlying22 Tryz.eFm rfl (how1.alloc _) rfl (news := [.int .i64 g'.op, .string g'.name, .int .i64 g'.cmp, .int .i64 g'.num, .slice A1 g'.kids.length cap1]) rfl (blk_cells (W := w2.alloc (.cells #[.int .i64 g'.op, .string g'.name, .int .i64 g'.cmp, .int .i64 g'.num, .slice A1 g'.kids.length cap1] 24)) (g := w1.heap.size) (t := 24) (by have := Blk.new w2 24 #[.int .i64 g'.op, .string g'.name, .int .i64 g'.cmp, .int .i64 g'.num, .slice A1 g'.kids.length cap1]; rwa [hs2] at this)) (by simp [Value.oneCell']) (by unfold maxLen; omega) (by omega) (by simp; omega) ?_; intro v1 w5 hown5 hg5 hat5))
     refine ⟨⟨_, _, _, ⟨k + 1, by omega, rfl, ?_, ?_, ?_, ?_, ?_⟩, rfl, rfl, by simp⟩, by simp [intOf]; omega⟩
     ·intro j hj hjk
      rcases Nat.lt_or_ge j k with h | h
      ·exact HNZ.out j (by omega) h
      ·obtain rfl : j = k := by omega
       rw [HGG.out]; exact HZ.out
     ·rw [HT.out]
      refine KidsOwn.grow (FmL.mono (fun b hb => ⟨hb.1, Nat.lt_of_lt_of_le hb.2.1 (by simp), hb.2.2⟩) (FmL.keep (.alloc (.refl _ _) _) how2)) ?_ hown5 hg5 hat5
      refine FmR.mono (fun b hb => ?_) _ _ (FmR.keep ((hk2.mono (fun b _ hb => ?_)).trans (.alloc (.refl _ _) _)) _ _ hG1.out)
      ·refine ⟨?_, by simp; omega, fun e => ?_⟩
       ·rcases hb.1 with h | h
        ·exact Or.inl h
        ·exact Or.inr (by omega)
       ·obtain ⟨csl0, how0, -⟩ := HO.out.1
        have := how0.lt b e
        rcases hb.1 with h | h <;> omega
      ·rcases hb.1 with h | h <;> omega
     ·refine ⟨(((hR.out.keep hk2 (by show w.heap.size + 1 ≠ wr.heap.size; omega)).alloc _).of_block (hg5.block _ (by simp; omega) fun e => ?_)), (((hQ.out.keep hk2 (by show w.heap.size ≠ wr.heap.size; omega)).alloc _).of_block (hg5.block _ (by simp; omega) fun e => ?_))⟩
      ·have := how1.lt _ e.symm
       omega
      ·have := how1.lt _ e.symm
       omega
     ·exact below_own ((below_blk hB.out hk2 (by omega) hB.out.size).alloc (by have := hB.out.size; omega) _) (how1.alloc _) hg5 (by simp; have := hB.out.size; omega) (by omega)
     ·have := hg5.size; simp at this; omega
  ·obtain rfl : k = f.kids.length := by omega
   have hk9 : ks.take f.kids.length = ks := by rw [← HLL.out]; exact List.take_length
   rw [hk9] at hown
   have hj := @joinS_end 6 ks (fun j hj => hnz j hj (by have := HLL.out; omega))
   rw [← HG.out] at hj
   obtain ⟨oA', ocap2, heq, hcap, hmax, hfm⟩ := KidsOwn.done hown
   injection heq with q1 q2 q3
   subst q1 q3
   have htl := keptS_len (op := 6) (ks := ks) f.kids.length
   rw [hk9] at htl
   have hll := HLL.out
   have HBEL := hid hbel
   have HBLK := hid hblk.1
   obtain ⟨⟨p0, p1, p2, p3, p4⟩, -⟩ := box5 hblk.2
   have HCAP := hid (And.intro hcap hmax)
   rw [show keptS 6 (List.take f.kids.length ks) = keptS 6 ks from by rw [hk9]]
   have hkl := hkM
   clear hown hk9 hnz hbel hblk hcap hmax q2 hkM hk
   have hZ : ∀ w2 : World, Keeps (fun b => b ≠ w.heap.size + 1) wr w2 → Keeps (fun b => ((Z b ∧ b < w.heap.size) ∨ w.heap.size + 2 ≤ b) ∨ w.heap.size + 2 ≤ b) wr w2 := fun w2 h => h.mono fun b _ hb => by
    rcases hb with (h | h) | h
    ·have := h.2; omega
    ·omega
    ·omega
   have h1 : ∀ b, (((Z b ∧ b < w.heap.size) ∨ w.heap.size + 2 ≤ b) ∨ w.heap.size + 2 ≤ b) → (Z b ∨ w.heap.size ≤ b) := fun b hb => by
    rcases hb with (h | h) | h
    ·exact Or.inl h.1
    ·exact Or.inr (by omega)
    ·exact Or.inr (by omega)
   have HZ := hid hZ
   have H1 := hid h1
   clear hZ h1
   cases hkc : keptS 6 ks with
   | nil =>
    rw [hkc] at hj
    have HJ := hid hj
    clear hkc hj hfm
    go_wp2_with (refine wpList_store_blk rfl 24 _ _ rfl rfl rfl HBLK.out rfl Tryz.szF (by simp [Value.oneCell']) ?_; intro w2 hb2 hk2 hs2; obtain ⟨⟨r0, r1, r2, r3, r4⟩, -⟩ := box5 hb2)
    refine bodyPost_ret (v := .agg #[.int .i64 2, .string ⟨#[]⟩, .int .i64 0, .int .i64 0, .slice none 0 0]) (by simp [results, Tryz.results45, go_sem, r0, r1, r2, r3, r4]) rfl ⟨_, rfl, ?_, below_blk HBEL.out hk2 (by omega) HBEL.out.size⟩
    rw [HJ.out]
    unfold FmR
    exact ⟨by simp [I64, unitS], by decide, by simp [I64], by simp [I64], none, 0, rfl, Nat.le_refl _, by decide, by decide, by unfold FmsR; trivial⟩
   | cons k0 r =>
    rw [hkc] at hj htl hfm HCAP
    cases r with
    | nil =>
     have HJ := hid hj
     unfold FmsR at hfm
     obtain ⟨b, off, cs, rfl, hz, hcs, hfk, -⟩ := hfm
     have HFK := hid hfk
     obtain ⟨A', cap', rfl⟩ := FmR.form hfk
     obtain ⟨c0, c1, c2, c3, c4⟩ := five_cells (fun j u hu => hcs j u hu)
     clear hkc hj hcs hfk htl
     simp only [List.length_cons, List.length_nil, Nat.zero_add]
     go_wp2_with (refine wpList_store_blk rfl 24 _ _ rfl rfl rfl HBLK.out rfl Tryz.szF (by simp [Value.oneCell']) ?_; intro w2 hb2 hk2 hs2; obtain ⟨⟨r0, r1, r2, r3, r4⟩, -⟩ := box5 hb2)
     refine bodyPost_ret (v := .agg #[.int .i64 k0.op, .string k0.name, .int .i64 k0.cmp, .int .i64 k0.num, .slice A' k0.kids.length cap']) (by simp [results, Tryz.results45, go_sem, r0, r1, r2, r3, r4]) rfl ⟨_, rfl, ?_, below_blk HBEL.out hk2 (by omega) HBEL.out.size⟩
     rw [HJ.out]
     exact FmR.mono H1.out _ _ (FmR.keep (HZ.out _ hk2) _ _ HFK.out)
    | cons k1 r =>
     have HJ := hid (hj.trans (show _ = Fm.mk 6 ⟨#[]⟩ 0 0 (k0 :: k1 :: r) from rfl))
     have HFM := hid hfm
     have hl2 : 2 ≤ (k0 :: k1 :: r).length := by simp
     clear hkc hj hfm
     generalize hlen2 : k0 :: k1 :: r = l at *
     have HLEN := hid hlen2
     clear hlen2
     have hz0 : ((l.length : Int) == 0) = false := by simp; intro e; rw [e] at hl2; simp at hl2
     have hz1 : ((l.length : Int) == 1) = false := by simp; omega
     go_wp2_with (refine wpList_store_blk rfl 24 _ _ rfl rfl rfl HBLK.out rfl Tryz.szF (by simp [Value.oneCell']) ?_; intro w2 hb2 hk2 hs2; obtain ⟨⟨r0, r1, r2, r3, r4⟩, -⟩ := box5 hb2)
     refine bodyPost_ret (v := .agg #[.int .i64 6, .string ⟨#[]⟩, .int .i64 0, .int .i64 0, .slice oA l.length ocap]) (by simp [results, Tryz.results45, go_sem, r0, r1, r2, r3, r4]) rfl ⟨_, rfl, ?_, below_blk HBEL.out hk2 (by omega) HBEL.out.size⟩
     rw [HJ.out]
     unfold FmR
     exact ⟨by simp [I64], by decide, by simp [I64], by simp [I64], oA, ocap, rfl, HCAP.out.1, by have := HCAP.out.2; unfold maxLen at this; omega, by omega, FmsR.mono H1.out _ _ (FmsR.keep (HZ.out _ hk2) _ _ HFM.out)⟩
end Go.Proofs.YtcigjmlileckhaaGreatDoor
