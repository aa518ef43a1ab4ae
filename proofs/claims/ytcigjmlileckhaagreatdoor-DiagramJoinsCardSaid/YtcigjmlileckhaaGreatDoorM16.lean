/- Plain functions of the lexer. No program in sight. Walks of package lexer: classes, at, while. -/
import Derived.Test.YtcigjmlileckhaaGreatDoorM1
import Derived.Lib.Index
import Derived.Test.YtcigjmlileckhaaGreatDoorProg
import Derived.Test.YtcigjmlileckhaaGreatDoorM0
import Derived.WalkSpells
import Derived.WalkLawsBesides
import Derived.Deep.QuietTactic
import Derived.BigQuiet
import Derived.Shelf.Abstract
import Derived.Laws.EntriesVeiled
/- Plain functions of the lexer. No program in sight. -/
namespace Go.Proofs.YtcigjmlileckhaaGreatDoor
open Go.RowKit
def classOf (b : UInt8) : Int :=
 if (97 ≤ b.toNat ∧ b.toNat ≤ 122) ∨ (65 ≤ b.toNat ∧ b.toNat ≤ 90) then 3
 else if 48 ≤ b.toNat ∧ b.toNat ≤ 57 then 4
 else if b.toNat = 95 then 5
 else if b.toNat = 32 ∨ b.toNat = 9 ∨ b.toNat = 10 then 1
 else if b.toNat = 35 then 2
 else if b.toNat = 34 then 6
 else if b.toNat = 33 then 7
 else if b.toNat = 60 ∨ b.toNat = 62 then 8
 else if b.toNat = 59 ∨ b.toNat = 44 ∨ b.toNat = 46 ∨ b.toNat = 58 ∨ b.toNat = 40 ∨ b.toNat = 41 ∨ b.toNat = 91 ∨ b.toNat = 93 ∨ b.toNat = 123 ∨ b.toNat = 125 ∨ b.toNat = 61 ∨ b.toNat = 43 ∨ b.toNat = 45 then 9
 else 0
def setAllI (cur : Array Int) (s : List UInt8) (c : Int) : Array Int := s.foldl (fun a b => a.setIfInBounds b.toNat c) cur
theorem setAllI_size (s : List UInt8) (c : Int) : ∀ cur : Array Int, (setAllI cur s c).size = cur.size := by
 induction s with
 | nil => intro cur; rfl
 | cons b r ih => intro cur; show (setAllI (cur.setIfInBounds b.toNat c) r c).size = _; rw [ih]; simp
theorem setAllI_snoc (cur : Array Int) (s : List UInt8) (b : UInt8) (c : Int) : setAllI cur (s ++ [b]) c = (setAllI cur s c).setIfInBounds b.toNat c := by
 simp [setAllI, List.foldl_append]
def cls0 : Array Int := Array.replicate 256 0
def cls1 := setAllI cls0 [97, 98, 99, 100, 101, 102, 103, 104, 105, 106, 107, 108, 109, 110, 111, 112, 113, 114, 115, 116, 117, 118, 119, 120, 121, 122, 65, 66, 67, 68, 69, 70, 71, 72, 73, 74, 75, 76, 77, 78, 79, 80, 81, 82, 83, 84, 85, 86, 87, 88, 89, 90] 3
def cls2 := setAllI cls1 [48, 49, 50, 51, 52, 53, 54, 55, 56, 57] 4
def cls3 := setAllI cls2 [95] 5
def cls4 := setAllI cls3 [32, 9, 10] 1
def cls5 := setAllI cls4 [35] 2
def cls6 := setAllI cls5 [34] 6
def cls7 := setAllI cls6 [33] 7
def cls8 := setAllI cls7 [60, 62] 8
def cls9 := setAllI cls8 [59, 44, 46, 58, 40, 41, 91, 93, 123, 125, 61, 43, 45] 9
theorem cls9_get : ∀ i : Fin 256, cls9[i.val]? = some (classOf (UInt8.ofNat i.val)) := by decide +kernel
theorem cls9_size : cls9.size = 256 := by
 unfold cls9 cls8 cls7 cls6 cls5 cls4 cls3 cls2 cls1 cls0
 simp only [setAllI_size, Array.size_replicate]
theorem cls9_at (b : UInt8) : cls9[b.toNat]? = some (classOf b) := by
 have h := cls9_get ⟨b.toNat, b.toNat_lt⟩
 rwa [UInt8.ofNat_toNat] at h
def valsI (c : Array Int) : Array Value := c.map (.int .i64)
theorem valsI_set (c : Array Int) (i : Nat) (n : Int) : (valsI c).setIfInBounds i (.int .i64 n) = valsI (c.setIfInBounds i n) := by
 unfold valsI
 apply Array.ext_getElem?
 intro j
 simp only [Array.getElem?_setIfInBounds, Array.getElem?_map, Array.size_map]
 split
 ·split <;> simp
 ·rfl
theorem valsI_size (c : Array Int) : (valsI c).size = c.size := by simp [valsI]
theorem valsI_get (c : Array Int) (i : Nat) : (valsI c)[i]? = c[i]?.map (.int .i64) := by simp [valsI]
theorem valsI_one (c : Array Int) : (valsI c).all (·.oneCell') = true := by
 unfold valsI
 rw [Array.all_eq_true]
 intro i hi
 simp [Value.oneCell']
def classAt (s : ByteArray) (i : Nat) : Int := match s.data.toList[i]? with | none => 0 | some b => classOf b
theorem classAt_lt {s : ByteArray} {i : Nat} (h : i < s.size) : classAt s i = classOf s[i] := by
 unfold classAt
 have hl : i < s.data.toList.length := by simpa using h
 rw [List.getElem?_eq_getElem hl]
 simp; rfl
theorem classAt_ge {s : ByteArray} {i : Nat} (h : s.size ≤ i) : classAt s i = 0 := by
 unfold classAt
 have hl : s.data.toList.length ≤ i := by simpa using h
 rw [List.getElem?_eq_none hl]
/-- The first offset from i on whose byte has none of some classes. -/
def WhileTo (s : ByteArray) (cls : List Int) (i k : Nat) : Prop := i ≤ k ∧ ∀ j, i ≤ j → j < k → cls.contains (classAt s j) = true
def whileS (s : ByteArray) (cls : List Int) (i : Nat) : Nat → Nat
 | 0 => i
 | n + 1 => if i < s.size ∧ cls.contains (classAt s i) = true then whileS s cls (i + 1) n else i
/-- The end of a run. -/
def runEnd (s : ByteArray) (cls : List Int) (i : Nat) : Nat := whileS s cls i (s.size - i)
theorem whileS_eq {s : ByteArray} {cls : List Int} {k : Nat} : ∀ {n i : Nat}, i ≤ k → k ≤ i + n → k ≤ s.size → (∀ j, i ≤ j → j < k → cls.contains (classAt s j) = true) → (k < s.size → k < i + n → cls.contains (classAt s k) = false) → whileS s cls i n = k
 | 0, i, h1, h2, _, _, _ => by unfold whileS; omega
 | n + 1, i, h1, h2, h3, h4, h5 => by
  unfold whileS
  by_cases e : i = k
  ·subst e
   by_cases h : i < s.size
   ·rw [if_neg (by rw [h5 h (by omega)]; simp)]
   ·rw [if_neg (fun c => h c.1)]
  ·rw [if_pos ⟨by omega, h4 i (Nat.le_refl _) (by omega)⟩, whileS_eq (by omega) (by omega) h3 (fun j a b => h4 j (by omega) b) (fun a b => h5 a (by omega))]
theorem runEnd_eq {s : ByteArray} {cls : List Int} {i k : Nat} (h1 : i ≤ k) (h3 : k ≤ s.size) (h4 : ∀ j, i ≤ j → j < k → cls.contains (classAt s j) = true) (h5 : k < s.size → cls.contains (classAt s k) = false) : runEnd s cls i = k :=
 whileS_eq h1 (by omega) h3 h4 (fun a _ => h5 a)
theorem whileS_spec (s : ByteArray) (cls : List Int) : ∀ n i, i ≤ s.size → i + n = s.size → i ≤ whileS s cls i n ∧ whileS s cls i n ≤ s.size ∧ (∀ j, i ≤ j → j < whileS s cls i n → cls.contains (classAt s j) = true) ∧ (whileS s cls i n < s.size → cls.contains (classAt s (whileS s cls i n)) = false)
 | 0, i, h, he => by unfold whileS; exact ⟨Nat.le_refl _, h, fun j a b => by omega, fun hlt => by omega⟩
 | n + 1, i, h, he => by
  unfold whileS
  by_cases hc : i < s.size ∧ cls.contains (classAt s i) = true
  ·rw [if_pos hc]
   obtain ⟨h1, h2, h3, h4⟩ := whileS_spec s cls n (i + 1) (by omega) (by omega)
   refine ⟨by omega, h2, fun j a b => ?_, h4⟩
   by_cases e : j = i
   ·subst e; exact hc.2
   ·exact h3 j (by omega) b
  ·rw [if_neg hc]
   refine ⟨Nat.le_refl _, h, fun j a b => by omega, fun hlt => ?_⟩
   cases hb : cls.contains (classAt s i) with
   | true => exact absurd ⟨hlt, hb⟩ hc
   | false => rfl
theorem runEnd_spec (s : ByteArray) (cls : List Int) {i : Nat} (h : i ≤ s.size) : i ≤ runEnd s cls i ∧ runEnd s cls i ≤ s.size ∧ (∀ j, i ≤ j → j < runEnd s cls i → cls.contains (classAt s j) = true) ∧ (runEnd s cls i < s.size → cls.contains (classAt s (runEnd s cls i)) = false) :=
 whileS_spec s cls _ i h (by omega)
end Go.Proofs.YtcigjmlileckhaaGreatDoor
/- Walks of package lexer: classes, at, while. -/
namespace Go.Proofs.YtcigjmlileckhaaGreatDoor
open Go.RowKit
theorem getElem_toList {s : ByteArray} {k : Nat} (hk : k < s.size) : s.data.toList[k]? = some s[k] := by
 have hl : k < s.data.toList.length := by simpa using hk
 rw [List.getElem?_eq_getElem hl]; simp; rfl
set_option maxRecDepth 100000 in
set_option maxHeartbeats 1000000 in
theorem classes1_any (B : Nat) (cur : Array Int) (hcur : cur.size = 256) (s : ByteArray) (hs : s.size ≤ 1000) (c : Int) (w : World) (hB : Blk w B 176 (valsI cur)) :
  Calls Tryz.prog 163 #[.string s, .int .i64 c, .pointer (some ⟨B, 0, none⟩)] w fun e w' => e = .returned (.tuple #[]) ∧ Blk w' B 176 (valsI (setAllI cur s.data.toList c)) ∧ Keeps (fun b => b ≠ B) w w' := by
 go_enter Tryz.func163, Tryz.ntmps163
 go_wp2
 go_loopw [5] (fun i wr => ∃ k : Nat, k ≤ s.size ∧ i = .int .i64 k ∧ Blk wr B 176 (valsI (setAllI cur (s.data.toList.take k) c)) ∧ Keeps (fun b => b ≠ B) w wr) (fun i _ => s.size - (intOf i).toNat)
 case atStart => exact ⟨0, Nat.zero_le _, rfl, hB, .refl _ _⟩
 case round =>
  obtain ⟨k, hk, rfl, hblk, hkp⟩ := hrel
  by_cases hlt : k < s.size
  ·have hb := (s[k]).toNat_lt
   have hsz : (valsI (setAllI cur (s.data.toList.take k) c)).size = 256 := by rw [valsI_size, setAllI_size, hcur]
   have hcell : ∃ v, wr.cell? ⟨B, s[k].toNat, none⟩ = some v := by
    rw [hblk.cell]
    exact ⟨_, Array.getElem?_eq_getElem (by omega)⟩
   obtain ⟨v0, hc0⟩ := hcell
   have hf0 := hblk.frozen (s[k]).toNat
   have HB := hid hblk
   have ht : s.data.toList.take (k + 1) = s.data.toList.take k ++ [s[k]] := by
    rw [List.take_add_one, getElem_toList hlt]; rfl
   have HT := hid ht
   clear hblk ht hsz
   have h256 : ((s[k].toNat : Nat) : Int) < 256 := by omega
   go_wp2
   go_roundw
   case rel =>
    refine ⟨k + 1, by omega, by go_num, ?_, .setCell hkp (fun _ h => h rfl) _⟩
    rw [HT.out, setAllI_snoc, ← valsI_set]
    exact HB.out.set_ _ _
   case measure => simp [intOf]; omega
  ·obtain rfl : k = s.size := by omega
   go_wp2
   go_end0
   refine ⟨rfl, ?_, hkp⟩
   rwa [List.take_of_length_le (by simp)] at hblk
theorem Tryz.zc176 : Tryz.zeroCells176 = valsI cls0 := by
 unfold valsI cls0
 rw [Array.map_replicate]
 kernel_rfl
theorem Tryz.sz176 : (Tryz.prog.info? 176).map (·.size) = some 256 := by kernel_rfl
set_option maxRecDepth 100000 in
set_option maxHeartbeats 2000000 in
theorem classes_any (w : World) :
  Calls Tryz.prog 146 #[] w fun e w' => e = .returned (.agg (valsI cls9)) ∧ Below w.heap.size w w' := by
 have eg : ∀ args w, (callFunc 163 args).run Tryz.prog w = .ok (.enter 163 args) w := enters_of Tryz.func163 (by kernel_rfl) rfl
 have hb0 : Blk ((w.alloc (.cells Tryz.zeroCells176 176)).alloc (.cells Tryz.zeroCells176 176)) (w.heap.size + 1) 176 (valsI cls0) := by
  rw [Tryz.zc176]
  have := Blk.new (w.alloc (.cells (valsI cls0) 176)) 176 (valsI cls0)
  simp only [World.size_alloc] at this
  exact this
 have ha0 : Blk ((w.alloc (.cells Tryz.zeroCells176 176)).alloc (.cells Tryz.zeroCells176 176)) w.heap.size 176 (valsI cls0) := by
  rw [Tryz.zc176]
  exact (Blk.new w _ _).alloc _
 have HA := hid ha0
 clear ha0
 have hbel : Below w.heap.size w ((w.alloc (.cells Tryz.zeroCells176 176)).alloc (.cells Tryz.zeroCells176 176)) := .alloc (.alloc (.refl _ _) (Nat.le_refl _) _) (by simp) _
 go_enter Tryz.func146, Tryz.ntmps146
 go_wp2_with fail
 refine (classes1_any (w.heap.size + 1) cls0 (by simp only [cls0, Array.size_replicate]) _ (by decide) 3 _ hb0).mono ?_
 rintro e w1 ⟨rfl, hb1, hk1⟩
 have HB1 : Hid (Blk w1 (w.heap.size + 1) 176 (valsI cls1)) := hb1
 clear hb1
 go_wp2_with fail
 refine (classes1_any (w.heap.size + 1) cls1 (by simp only [cls1, cls0, setAllI_size, Array.size_replicate]) _ (by decide) 4 _ HB1.out).mono ?_
 rintro e w2 ⟨rfl, hb2, hk2⟩
 have HB2 : Hid (Blk w2 (w.heap.size + 1) 176 (valsI cls2)) := hb2
 clear hb2
 go_wp2_with fail
 refine (classes1_any (w.heap.size + 1) cls2 (by simp only [cls2, cls1, cls0, setAllI_size, Array.size_replicate]) _ (by decide) 5 _ HB2.out).mono ?_
 rintro e w3 ⟨rfl, hb3, hk3⟩
 have HB3 : Hid (Blk w3 (w.heap.size + 1) 176 (valsI cls3)) := hb3
 clear hb3
 go_wp2_with fail
 refine (classes1_any (w.heap.size + 1) cls3 (by simp only [cls3, cls2, cls1, cls0, setAllI_size, Array.size_replicate]) _ (by decide) 1 _ HB3.out).mono ?_
 rintro e w4 ⟨rfl, hb4, hk4⟩
 have HB4 : Hid (Blk w4 (w.heap.size + 1) 176 (valsI cls4)) := hb4
 clear hb4
 go_wp2_with fail
 refine (classes1_any (w.heap.size + 1) cls4 (by simp only [cls4, cls3, cls2, cls1, cls0, setAllI_size, Array.size_replicate]) _ (by decide) 2 _ HB4.out).mono ?_
 rintro e w5 ⟨rfl, hb5, hk5⟩
 have HB5 : Hid (Blk w5 (w.heap.size + 1) 176 (valsI cls5)) := hb5
 clear hb5
 go_wp2_with fail
 refine (classes1_any (w.heap.size + 1) cls5 (by simp only [cls5, cls4, cls3, cls2, cls1, cls0, setAllI_size, Array.size_replicate]) _ (by decide) 6 _ HB5.out).mono ?_
 rintro e w6 ⟨rfl, hb6, hk6⟩
 have HB6 : Hid (Blk w6 (w.heap.size + 1) 176 (valsI cls6)) := hb6
 clear hb6
 go_wp2_with fail
 refine (classes1_any (w.heap.size + 1) cls6 (by simp only [cls6, cls5, cls4, cls3, cls2, cls1, cls0, setAllI_size, Array.size_replicate]) _ (by decide) 7 _ HB6.out).mono ?_
 rintro e w7 ⟨rfl, hb7, hk7⟩
 have HB7 : Hid (Blk w7 (w.heap.size + 1) 176 (valsI cls7)) := hb7
 clear hb7
 go_wp2_with fail
 refine (classes1_any (w.heap.size + 1) cls7 (by simp only [cls7, cls6, cls5, cls4, cls3, cls2, cls1, cls0, setAllI_size, Array.size_replicate]) _ (by decide) 8 _ HB7.out).mono ?_
 rintro e w8 ⟨rfl, hb8, hk8⟩
 have HB8 : Hid (Blk w8 (w.heap.size + 1) 176 (valsI cls8)) := hb8
 clear hb8
 go_wp2_with fail
 refine (classes1_any (w.heap.size + 1) cls8 (by simp only [cls8, cls7, cls6, cls5, cls4, cls3, cls2, cls1, cls0, setAllI_size, Array.size_replicate]) _ (by decide) 9 _ HB8.out).mono ?_
 rintro e w9 ⟨rfl, hb9, hk9⟩
 have HB9 : Hid (Blk w9 (w.heap.size + 1) 176 (valsI cls9)) := hb9
 clear hb9
 have hkk := hk1.trans (hk2.trans (hk3.trans (hk4.trans (hk5.trans (hk6.trans (hk7.trans (hk8.trans hk9)))))))
 have HA9 := hid (HA.out.keep hkk (by simp))
 have hB9 : Below w.heap.size w w9 := hbel.trans ⟨hkk.os, hkk.tape, hkk.output, hkk.size, fun k hk => hkk.block k (by simp; omega) (by omega)⟩
 clear hk1 hk2 hk3 hk4 hk5 hk6 hk7 hk8 hk9 HB1 HB2 HB3 HB4 HB5 HB6 HB7 HB8 HA hkk hbel
 have h9 : (valsI cls9).size = 256 := by rw [valsI_size, cls9_size]
 have h0 : (valsI cls0).size = 256 := by simp [valsI_size, cls0]
 have H9 := hid h9
 clear h9
 go_wp2_with (first
  | (refine wpList_load_blk rfl 176 _ rfl rfl HB9.out _ Tryz.underlying176 rfl (by rw [H9.out]; exact Tryz.sz176) ?_)
  | (refine wpList_store_blk rfl 176 _ _ rfl rfl rfl HA9.out (by rw [H9.out, h0]) (by rw [H9.out]; exact Tryz.sz176) (valsI_one _) ?_; intro w10 hb10 hk10 hs10))
 refine bodyPost_ret (v := .agg (valsI cls9)) (results_cell_row rfl _ _ w.heap.size 176 (valsI cls9) (0, 0) _ rfl hb10 Tryz.underlying176 rfl (by rw [H9.out]; exact Tryz.sz176)) rfl ⟨rfl, ?_⟩
 exact hB9.trans ⟨hk10.os, hk10.tape, hk10.output, hk10.size, fun k hk => hk10.block k (by have := hB9.size; omega) (by omega)⟩
/-- A scanner: its text, and the classes of bytes. -/
def ScanAt (w : World) (S : Nat) (s : ByteArray) : Prop := w.cell? ⟨S, 0, none⟩ = some (.string s) ∧ ∀ b : UInt8, w.cell? ⟨S, 1 + b.toNat, none⟩ = some (.int .i64 (classOf b))
theorem ScanAt.lt {w : World} {S : Nat} {s : ByteArray} (h : ScanAt w S s) : S < w.heap.size := lt_of_cell h.1
theorem ScanAt.below {B : Nat} {w w' : World} {S : Nat} {s : ByteArray} (h : ScanAt w S s) (hb : Below B w w') (hS : S < B) : ScanAt w' S s :=
 ⟨(hb.cell (p := ⟨S, 0, none⟩) hS).trans h.1, fun b => (hb.cell (p := ⟨S, 1 + b.toNat, none⟩) hS).trans (h.2 b)⟩
set_option maxRecDepth 100000 in
set_option maxHeartbeats 1000000 in
theorem at_any (S : Nat) (s : ByteArray) (i : Int) (w : World) (h : ScanAt w S s) (hi : 0 ≤ i) (hi2 : i ≤ 140737488355328) (_hs : s.size ≤ 140737488355328) :
  Calls Tryz.prog 165 #[.pointer (some ⟨S, 0, none⟩), .int .i64 i] w fun e w' => e = .returned (.int .i64 (classAt s i.toNat)) ∧ ∃ n, w' = w.drewN n := by
 obtain ⟨k, rfl⟩ : ∃ k : Nat, i = k := ⟨i.toNat, by omega⟩
 have h0 := h.1
 by_cases hlt : k < s.size
 ·have hc := h.2 s[k]
  have hb := (s[k]).toNat_lt
  have h256 : ((s[k].toNat : Nat) : Int) < 256 := by omega
  have hcl := hid (classAt_lt hlt)
  have hki : ((k : Nat) : Int) < (s.size : Int) := by omega
  clear h
  generalize classOf s[k] = c at *
  go_enter Tryz.func165, Tryz.ntmps165
  go_wp2
  go_quiet (fail)
  go_wp2
  go_ret
  exact ⟨ret_int (by simp only [Int.toNat_natCast]; rw [hcl.out]), _, rfl⟩
 ·have hcl := hid (classAt_ge (s := s) (i := k) (by omega))
  clear h
  go_enter Tryz.func165, Tryz.ntmps165
  go_wp2
  go_ret
  exact ⟨ret_int (by simp only [Int.toNat_natCast]; rw [hcl.out]), 0, rfl⟩
end Go.Proofs.YtcigjmlileckhaaGreatDoor
