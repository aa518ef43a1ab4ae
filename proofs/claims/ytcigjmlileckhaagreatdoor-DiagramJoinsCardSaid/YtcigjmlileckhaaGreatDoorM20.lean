/- Walks of package lexer: next at a quote; next whole. Walks of package lexer: Lex. Walks of package lexer: Lex. What an identifier is: one token, a name, the whole text. No program in sight. Walks of package formula: identifier, key. -/
import Derived.Test.YtcigjmlileckhaaGreatDoorM19
import Derived.Test.YtcigjmlileckhaaGreatDoorM1
import Derived.Test.YtcigjmlileckhaaGreatDoorM0
/- Walks of package lexer: next at a quote; next whole. -/
namespace Go.Proofs.YtcigjmlileckhaaGreatDoor
open Go.RowKit
theorem getElem_list {s : ByteArray} {k : Nat} (hk : k < s.size) {c : UInt8} : s.data.toList[k]? = some c ↔ s[k] = c := by
 rw [getElem_toList hk]; simp
set_option maxRecDepth 100000 in
set_option maxHeartbeats 1000000 in
theorem next_quote (S : Nat) (s : ByteArray) (i : Nat) (w : World) (h : ScanAt w S s) (hi : i < s.size) (hs : s.size ≤ 20000) (hc : classAt s i = 6) :
  Calls Tryz.prog 148 #[.pointer (some ⟨S, 0, none⟩), .int .i64 (i : Int)] w (NextPost s i w) := by
 have hS := h.lt
 have hn : nextS s i = (if Lib.indexAny (s.extract (i + 1) s.size).data.toList [34, 10] < 0 ∨ (s.extract (i + 1) s.size).data.toList[(Lib.indexAny (s.extract (i + 1) s.size).data.toList [34, 10]).toNat]? = some 10 then (tok0, 0, 6)
   else if 400 < Lib.indexAny (s.extract (i + 1) s.size).data.toList [34, 10] then (tok0, 0, 2)
   else (⟨3, i, 0, (s.extract (i + 1) s.size).extract 0 (Lib.indexAny (s.extract (i + 1) s.size).data.toList [34, 10]).toNat⟩, i + Lib.indexAny (s.extract (i + 1) s.size).data.toList [34, 10] + 2, 0)) := by
  unfold nextS; rw [if_neg (by omega), if_neg (by omega), if_pos hc]
 obtain ⟨b1, b2⟩ := indexAny_lt' [34, 10] (s.extract (i + 1) s.size).data.toList
 have hrs : (s.extract (i + 1) s.size).size = s.size - (i + 1) := by simp
 have HIA := hid (fun W => indexAny_q quotes (by decide) rfl (s.extract (i + 1) s.size) (by omega) W)
 rw [q3410] at HIA
 have HN := hid hn
 have H := hid h
 have HC := hid hc
 have s0 := h.1
 have HRS := hid hrs
 have hb2 : 0 ≤ Lib.indexAny (s.extract (i + 1) s.size).data.toList [34, 10] → (Lib.indexAny (s.extract (i + 1) s.size).data.toList [34, 10]).toNat < (s.extract (i + 1) s.size).size := by simpa using b2
 have e1 : ((i : Nat) : Int) + 1 ≤ s.size := by omega
 clear hn hc h hrs b2
 go_enter Tryz.func148, Tryz.ntmps148
 go_wp2_with fail
 refine (at_nat S s i _ (.alloc H.out _) (by omega) (by omega)).mono ?_
 rintro e w' ⟨rfl, n, rfl⟩
 rw [HC.out]
 go_wp2_with fail
 refine (HIA.out _).mono ?_
 rintro e w3 ⟨rfl, hb3⟩
 have tb : Blk w3 w.heap.size 156 #[.int .i64 0, .int .i64 0, .int .i64 0, .string ⟨#[]⟩] := Blk.below (.drewN (Blk.new w _ _) _) hb3 (by simp)
 have s3 := (ScanAt.below (.drewN (.alloc H.out _) _) hb3 (by simp; omega)).1
 have t0 : w3.cell? ⟨w.heap.size, 0, none⟩ = some (.int .i64 0) := tb.cell 0
 have t1 : w3.cell? ⟨w.heap.size, 1, none⟩ = some (.int .i64 0) := tb.cell 1
 have t2 : w3.cell? ⟨w.heap.size, 2, none⟩ = some (.int .i64 0) := tb.cell 2
 have t3 : w3.cell? ⟨w.heap.size, 3, none⟩ = some (.string ⟨#[]⟩) := tb.cell 3
 have f0 := tb.frozen 0
 have f1 := tb.frozen 1
 have f2 := tb.frozen 2
 have f3 := tb.frozen 3
 have hbel : Below w.heap.size w w3 := .trans (by (repeat (first | exact Below.refl _ _ | assumption | refine below_drewN' ?_ _ | refine Below.drew ?_ | (refine Below.setCell ?_ (by first | exact Nat.le_refl _ | (simp; done) | (simp; omega) | omega) _) | (refine Below.alloc ?_ (by first | exact Nat.le_refl _ | (simp; done) | (simp; omega) | omega) _)))) (hb3.mono (by simp))
 clear tb hb3 s0
 generalize s.extract (i + 1) s.size = r at *
 generalize hq : Lib.indexAny r.data.toList [34, 10] = q at *
 clear hq
 by_cases hneg : q < 0
 ·rw [if_pos (Or.inl hneg)] at HN
  have hneg' : decide (q < 0) = true := by simpa using hneg
  go_wp2
  refine bodyPost_ret (v := .tuple #[.agg (Tok.cells tok0).toArray, .int .i64 0, .int .i64 6]) (by simp [results, Tryz.results148, go_sem, t0, t1, t2, t3]; rfl) rfl (nextPost_mk HN.out (by (repeat (first | exact Below.refl _ _ | assumption | refine below_drewN' ?_ _ | refine Below.drew ?_ | (refine Below.setCell ?_ (by first | exact Nat.le_refl _ | (simp; done) | (simp; omega) | omega) _) | (refine Below.alloc ?_ (by first | exact Nat.le_refl _ | (simp; done) | (simp; omega) | omega) _)))))
 ·have hneg' : decide (q < 0) = false := by simpa using hneg
  obtain ⟨m, rfl⟩ : ∃ m : Nat, q = m := ⟨q.toNat, by omega⟩
  have hm := hb2 (by omega)
  simp only [Int.toNat_natCast] at hm HN
  have hrsz := HRS.out
  have hmI : ((m : Nat) : Int) < (r.size : Int) := by omega
  clear hb2
  by_cases h10 : r[m] = 10
  ·rw [if_pos (Or.inr ((getElem_list hm).2 h10))] at HN
   have h10' : (((r[m].toNat : Nat) : Int) == 10) = true := by rw [h10]; rfl
   clear h10
   go_wp2
   refine bodyPost_ret (v := .tuple #[.agg (Tok.cells tok0).toArray, .int .i64 0, .int .i64 6]) (by simp [results, Tryz.results148, go_sem, t0, t1, t2, t3]; rfl) rfl (nextPost_mk HN.out (by (repeat (first | exact Below.refl _ _ | assumption | refine below_drewN' ?_ _ | refine Below.drew ?_ | (refine Below.setCell ?_ (by first | exact Nat.le_refl _ | (simp; done) | (simp; omega) | omega) _) | (refine Below.alloc ?_ (by first | exact Nat.le_refl _ | (simp; done) | (simp; omega) | omega) _)))))
  ·rw [if_neg (fun hh => hh.elim (fun a => hneg a) (fun a => h10 ((getElem_list hm).1 a)))] at HN
   have h10' : (((r[m].toNat : Nat) : Int) == 10) = false := by
    rw [beq_eq_false_iff_ne]
    intro e
    exact h10 (UInt8.toNat_inj.1 (by have e10 : (10 : UInt8).toNat = 10 := rfl; omega))
   clear h10
   by_cases h400 : (400 : Int) < m
   ·rw [if_pos h400] at HN
    go_wp2
    refine bodyPost_ret (v := .tuple #[.agg (Tok.cells tok0).toArray, .int .i64 0, .int .i64 2]) (by simp [results, Tryz.results148, go_sem, t0, t1, t2, t3]; rfl) rfl (nextPost_mk HN.out (by (repeat (first | exact Below.refl _ _ | assumption | refine below_drewN' ?_ _ | refine Below.drew ?_ | (refine Below.setCell ?_ (by first | exact Nat.le_refl _ | (simp; done) | (simp; omega) | omega) _) | (refine Below.alloc ?_ (by first | exact Nat.le_refl _ | (simp; done) | (simp; omega) | omega) _)))))
   ·rw [if_neg h400] at HN
    go_wp2
    refine bodyPost_ret (v := .tuple #[.agg (Tok.cells ⟨3, i, 0, r.extract 0 m⟩).toArray, .int .i64 ((i : Int) + m + 2), .int .i64 0]) (by simp [results, Tryz.results148, go_sem, t0, t1, t2, t3]; rfl) rfl (nextPost_mk HN.out (by (repeat (first | exact Below.refl _ _ | assumption | refine below_drewN' ?_ _ | refine Below.drew ?_ | (refine Below.setCell ?_ (by first | exact Nat.le_refl _ | (simp; done) | (simp; omega) | omega) _) | (refine Below.alloc ?_ (by first | exact Nat.le_refl _ | (simp; done) | (simp; omega) | omega) _)))))
theorem next_any (S : Nat) (s : ByteArray) (i : Nat) (w : World) (h : ScanAt w S s) (hi : i < s.size) (hs : s.size ≤ 20000) :
  Calls Tryz.prog 148 #[.pointer (some ⟨S, 0, none⟩), .int .i64 (i : Int)] w (NextPost s i w) := by
 by_cases h3 : classAt s i = 3
 ·exact next_letter S s i w h hi hs h3
 by_cases h4 : classAt s i = 4
 ·exact next_digit S s i w h hi hs h4
 by_cases h6 : classAt s i = 6
 ·exact next_quote S s i w h hi hs h6
 by_cases h7 : classAt s i = 7
 ·exact next_mark S s i w h hi hs (.inl h7)
 by_cases h8 : classAt s i = 8
 ·exact next_mark S s i w h hi hs (.inr h8)
 by_cases h9 : classAt s i = 9
 ·exact next_symbol S s i w h hi hs h9
 exact next_other S s i w h hi hs h3 h4 h6 h7 h8 h9
end Go.Proofs.YtcigjmlileckhaaGreatDoor
/- Walks of package lexer: Lex. -/
namespace Go.Proofs.YtcigjmlileckhaaGreatDoor
open Go.RowKit
def scanCells (s : ByteArray) : Array Value := #[.string s] ++ valsI cls9
theorem scanCells_size (s : ByteArray) : (scanCells s).size = 257 := by simp [scanCells, valsI_size, cls9_size]
theorem foldl_setFrom : ∀ (l : List Value) (k o : Nat) (cs : Array Value), (l.zipIdx k).foldl (fun cs x => cs.setIfInBounds (o + x.2) x.1) cs = setFrom cs l (o + k)
 | [], _, _, _ => rfl
 | v :: r, k, o, cs => by
  simp only [List.zipIdx_cons, List.foldl_cons]
  rw [foldl_setFrom r (k + 1) o]
  rfl
theorem Tryz.zc179 : Tryz.zeroCells179.size = 257 := by kernel_rfl
theorem Tryz.sz179 : (Tryz.prog.info? 179).map (·.size) = some 257 := by kernel_rfl
theorem scan_build (s : ByteArray) : (Array.foldl (fun cs x => cs.setIfInBounds (1 + x.snd) x.fst) (Tryz.zeroCells179.setIfInBounds 0 (Value.string s)) (valsI cls9).zipIdx 0 256) = scanCells s := by
 have h9 : (valsI cls9).size = 256 := by rw [valsI_size, cls9_size]
 have e : (valsI cls9).zipIdx.size = 256 := by simp [h9]
 rw [← e, ← Array.foldl_toList, Array.toList_zipIdx, foldl_setFrom]
 apply Array.ext_getElem?
 intro j
 rw [setFrom_get _ _ _ (by simp [h9])]
 simp only [Array.length_toList, h9]
 have hz := Tryz.zc179
 by_cases h0 : j = 0
 ·subst h0; rw [if_neg (by omega)]; simp only [scanCells]; rw [Array.getElem?_append_left (by simp)]; simp [hz]
 ·by_cases h1 : j < 257
  ·rw [if_pos (by omega)]
   simp only [scanCells]
   rw [Array.getElem?_append_right (by simp; omega)]
   simp
  ·rw [if_neg (by omega)]
   rw [Array.getElem?_eq_none (by simp [hz]; omega), Array.getElem?_eq_none (by have := scanCells_size s; omega)]
theorem scanCells_one (s : ByteArray) : (scanCells s).all (·.oneCell') = true := by
 unfold scanCells
 rw [Array.all_append, valsI_one]
 simp [Value.oneCell']
theorem scanAt_of {w : World} {S : Nat} {s : ByteArray} {t : TypeId} (h : Blk w S t (scanCells s)) : ScanAt w S s := by
 refine ⟨by rw [h.cell]; unfold scanCells; rw [Array.getElem?_append_left (by simp)]; rfl, fun b => ?_⟩
 rw [h.cell]
 unfold scanCells
 rw [Array.getElem?_append_right (by simp), valsI_get]
 have := cls9_at b
 simp [this]
/-- The tokens of a text, from an offset on, behind those that were read. -/
def lexT (s : ByteArray) : Nat → Nat → List Tok → List Tok × Int × Int
 | 0, _, acc => (acc, 0, 0)
 | f + 1, i, acc =>
  if i < s.size then
   (if (nextS s i).2.2 = 0 ∧ acc.length = 5000 then ([], 2, i)
    else if (nextS s i).2.2 ≠ 0 then ([], (nextS s i).2.2, i)
    else lexT s f (gapS s (nextS s i).2.1.toNat) (acc ++ [(nextS s i).1]))
  else (acc, 0, 0)
/-- The tokens of a text, or an error and its offset. -/
def lexS (s : ByteArray) : List Tok × Int × Int := if 20000 < s.size then ([], 2, -1) else lexT s (s.size + 1) (gapS s 0) []
theorem gapT_bounds (s : ByteArray) : ∀ f j, j ≤ s.size → j ≤ gapT s f j ∧ gapT s f j ≤ s.size
 | 0, j, h => ⟨Nat.le_refl _, h⟩
 | f + 1, j, h => by
  unfold gapT
  split
  ·split
   ·exact ⟨h, Nat.le_refl _⟩
   ·have h1 := nlAt_ge s h
    have h2 := runEnd_spec s [1] (i := j + (nlAt s j).toNat) (by omega)
    have h3 := gapT_bounds s f _ h2.2.1
    exact ⟨by omega, h3.2⟩
  ·exact ⟨Nat.le_refl _, h⟩
theorem gapS_bounds (s : ByteArray) {i : Nat} (h : i ≤ s.size) : i ≤ gapS s i ∧ gapS s i ≤ s.size := by
 have h2 := runEnd_spec s [1] h
 have h3 := gapT_bounds s (s.size + 1) _ h2.2.1
 unfold gapS
 exact ⟨by omega, h3.2⟩
theorem nextS_bounds {s : ByteArray} {i : Nat} (hi : i < s.size) (h : (nextS s i).2.2 = 0) : (i : Int) < (nextS s i).2.1 ∧ (nextS s i).2.1 ≤ s.size := by
 unfold nextS at h ⊢
 split at h
 ·rename_i hc
  rw [if_pos hc]
  split at h
  ·simp at h
  ·rename_i hk
   rw [if_neg hk]
   obtain ⟨h1, h2, _, h4⟩ := runEnd_spec s [3, 4, 5] (i := i) (by omega)
   have : i < runEnd s [3, 4, 5] i := by
    rcases Nat.lt_or_ge i (runEnd s [3, 4, 5] i) with h' | h'
    ·exact h'
    ·have e : runEnd s [3, 4, 5] i = i := by omega
     have := h4 (by omega)
     rw [e, hc] at this; simp at this
   exact ⟨by show (i : Int) < ((runEnd s [3, 4, 5] i : Nat) : Int); omega, by show ((runEnd s [3, 4, 5] i : Nat) : Int) ≤ _; omega⟩
 ·rename_i hc3
  rw [if_neg hc3]
  split at h
  ·rename_i hc
   rw [if_pos hc]
   split at h
   ·simp at h
   ·rename_i hk
    rw [if_neg hk]
    obtain ⟨h1, h2, _, h4⟩ := runEnd_spec s [4] (i := i) (by omega)
    have : i < runEnd s [4] i := by
     rcases Nat.lt_or_ge i (runEnd s [4] i) with h' | h'
     ·exact h'
     ·have e : runEnd s [4] i = i := by omega
      have := h4 (by omega)
      rw [e, hc] at this; simp at this
    exact ⟨by show (i : Int) < ((runEnd s [4] i : Nat) : Int); omega, by show ((runEnd s [4] i : Nat) : Int) ≤ _; omega⟩
  ·rename_i hc4
   rw [if_neg hc4]
   split at h
   ·rename_i hc
    rw [if_pos hc]
    split at h
    ·simp at h
    ·rename_i hk
     rw [if_neg hk]
     split at h
     ·simp at h
     ·rename_i hk2
      rw [if_neg hk2]
      obtain ⟨b1, b2⟩ := indexAny_lt' [34, 10] (s.extract (i + 1) s.size).data.toList
      have hk0 : 0 ≤ Lib.indexAny (s.extract (i + 1) s.size).data.toList [34, 10] := by
       have : ¬ Lib.indexAny (s.extract (i + 1) s.size).data.toList [34, 10] < 0 := fun hh => hk (.inl hh)
       omega
      have b3 := b2 hk0
      have hsz : (s.extract (i + 1) s.size).data.toList.length = s.size - (i + 1) := by simp
      rw [hsz] at b3
      exact ⟨by show (i : Int) < (i : Int) + _ + 2; omega, by show (i : Int) + _ + 2 ≤ _; omega⟩
   ·rename_i hc6
    rw [if_neg hc6]
    split at h
    ·rename_i hc
     rw [if_pos hc]
     split at h
     ·rename_i hp
      rw [if_pos hp]
      have hlen : i + 2 ≤ s.size := by
       unfold Lib.hasPrefix at hp
       have := (List.isPrefixOf_iff_prefix.1 hp).length_le
       rw [Lib.extract_data] at this
       simp at this
       omega
      exact ⟨by show (i : Int) < (i : Int) + 2; omega, by show (i : Int) + 2 ≤ _; omega⟩
     ·rename_i hp
      rw [if_neg hp]
      split at h
      ·simp at h
      ·rename_i h7
       rw [if_neg h7]
       exact ⟨by show (i : Int) < (i : Int) + 1; omega, by show (i : Int) + 1 ≤ _; omega⟩
    ·rename_i hc7
     rw [if_neg hc7]
     split at h
     ·rename_i hc
      rw [if_pos hc]
      exact ⟨by show (i : Int) < (i : Int) + 1; omega, by show (i : Int) + 1 ≤ _; omega⟩
     ·simp at h
end Go.Proofs.YtcigjmlileckhaaGreatDoor
/- Walks of package lexer: Lex. -/
namespace Go.Proofs.YtcigjmlileckhaaGreatDoor
open Go.RowKit
theorem Tryz.eTok : ElemIs Tryz.prog 156 4 40 := elemIs_of (z := .agg #[.int .i64 0, .int .i64 0, .int .i64 0, .string ⟨#[]⟩]) (by kernel_rfl) rfl (by decide)
def LexPost (s : ByteArray) (w : World) (e : Ending) (w' : World) : Prop :=
 ∃ v, e = .returned (.tuple #[v, .int .i64 (lexS s).2.1, .int .i64 (lexS s).2.2]) ∧ w'.ownsRow w.heap.size 156 4 v (lexS s).1.length ((lexS s).1.flatMap Tok.cells) ∧ Below w.heap.size w w'
theorem lexPost_mk {s : ByteArray} {w w' : World} {v : Value} {ts : List Tok} {n e : Int} (h : lexS s = (ts, n, e)) (ho : w'.ownsRow w.heap.size 156 4 v ts.length (ts.flatMap Tok.cells)) (hb : Below w.heap.size w w') :
  LexPost s w (.returned (.tuple #[v, .int .i64 n, .int .i64 e])) w' := by
 unfold LexPost; rw [h]; exact ⟨v, rfl, ho, hb⟩
theorem own_nil (w : World) (base : Nat) (e : TypeId) (size : Nat) : w.ownsRow base e size (.slice none 0 0) 0 [] := World.ownsRow_nil w base e size
theorem own_below {w w' : World} {base : Nat} {e : TypeId} {size n : Nat} {v : Value} {xs : List Value} (h : w.ownsRow base e size v n xs) (hb : Below w.heap.size w w') : w'.ownsRow base e size v n xs :=
 h.kept (row := none) ⟨hb.os, hb.tape, hb.output, hb.size, fun k hk _ => hb.block k hk⟩ (by cases hv : v.ownBlock <;> simp)
theorem blk_cells {W : World} {g : Nat} {t : TypeId} {cs : List Value} (h : Blk W g t cs.toArray) : ∀ j u, cs[j]? = some u → W.cell? ⟨g, 0 + j, none⟩ = some u := fun j u hu => by
 rw [Nat.zero_add, h.cell]; simpa using hu
set_option maxRecDepth 100000 in
set_option maxHeartbeats 2000000 in
theorem lex_long (s : ByteArray) (w : World) (hs : 20000 < s.size) (hs2 : s.size ≤ 140737488355328) :
  Calls Tryz.prog 123 #[.string s] w (LexPost s w) := by
 have hl : lexS s = ([], 2, -1) := by unfold lexS; rw [if_pos hs]
 have HL := hid hl
 clear hl
 go_enter Tryz.func123, Tryz.ntmps123
 go_wp2
 go_ret3
 exact lexPost_mk HL.out (own_nil _ _ _ _) (Below.refl _ _)
set_option maxRecDepth 100000 in
set_option maxHeartbeats 4000000 in
theorem lex_short (s : ByteArray) (w : World) (hs : s.size ≤ 20000) :
  Calls Tryz.prog 123 #[.string s] w (LexPost s w) := by
 have hl : lexS s = lexT s (s.size + 1) (gapS s 0) [] := by unfold lexS; rw [if_neg (by omega)]
 have HL := hid hl
 have hbd := scan_build s
 have h256 : (valsI cls9).size = 256 := by rw [valsI_size, cls9_size]
 have hg0 := gapS_bounds s (i := 0) (by omega)
 clear hl
 go_enter Tryz.func123, Tryz.ntmps123
 go_wp2_with fail
 refine (classes_any _).mono ?_
 rintro e w1 ⟨rfl, hb1⟩
 have hw1 := hb1.size
 go_wp2_with (refine wpList_store_blk rfl 179 _ _ rfl rfl rfl (Blk.new _ _ _) (by rw [Tryz.zc179, scanCells_size]) (by rw [scanCells_size]; exact Tryz.sz179) (scanCells_one s) ?_; intro w2 hb2 hk2 hs2)
 have hsc := scanAt_of hb2
 have hbel : Below w.heap.size w w2 := hb1.trans ((below_keeps_ne (below1 w1 _) hk2 (Nat.le_refl _) (by simp)).mono (by omega))
 clear hbd h256 hb2 hk2 hb1
 have hS : w1.heap.size < w2.heap.size := by rw [hs2]; simp
 have hSb : w.heap.size ≤ w1.heap.size := hw1
 go_wp2_with fail
 refine (gap_any w1.heap.size s 0 w2 hsc (by omega) (by omega) (by omega)).mono ?_
 rintro e w3 ⟨rfl, hb3⟩
 have hsc3 := hsc.below hb3 hS
 have hbel3 := HBEL_trans hbel hb3
 clear hsc hbel hb3 hs2
 have hSb3 : w1.heap.size < w3.heap.size := hsc3.lt
 have HE0 := hid hg0
 go_wp2
 go_loopw [6, 7] (fun v i wr => ∃ (k f : Nat) (acc : List Tok), k ≤ s.size ∧ i = .int .i64 k ∧ s.size < f + k ∧ Hid (lexT s f k acc = lexS s) ∧ acc.length ≤ 5000 ∧ wr.ownsRow w3.heap.size 156 4 v acc.length (acc.flatMap Tok.cells) ∧ ScanAt wr w1.heap.size s ∧ Below w3.heap.size w3 wr) (fun _ i _ => s.size + 1 - (intOf i).toNat)
 case atStart =>
  refine ⟨gapS s 0, s.size + 1, [], HE0.out.2, rfl, by omega, HL.out.symm, by simp, own_nil _ _ _ _, hsc3, .refl _ _⟩
 case round =>
  obtain ⟨k, f, acc, hk, rfl, hf, hlex, hacc, hown, hsc, hb⟩ := hrel
  clear hsc3
  obtain ⟨oA, ocap, rfl, -, -, -⟩ := Row.of_own hown (by decide)
  obtain ⟨f, rfl⟩ : ∃ f', f = f' + 1 := ⟨f - 1, by omega⟩
  have hlt3 : w3.heap.size ≤ wr.heap.size := hb.size
  by_cases hlt : k < s.size
  ·have hN := hid (next_any w1.heap.size s k wr hsc hlt (by omega))
   have hex : lexS s = (if (nextS s k).2.2 = 0 ∧ acc.length = 5000 then ([], 2, (k : Int)) else if (nextS s k).2.2 ≠ 0 then ([], (nextS s k).2.2, (k : Int)) else lexT s f (gapS s (nextS s k).2.1.toNat) (acc ++ [(nextS s k).1])) := by
    rw [← hlex.out, lexT, if_pos hlt]
   have hnb := nextS_bounds hlt
   unfold NextPost at hN
   generalize nextS s k = q at *
   obtain ⟨⟨kd, ps, nu, tx⟩, en, er⟩ := q
   simp only [Tok.cells] at hN hex hnb
   have HX := hid hex
   have HNB := hid hnb
   clear hex hnb
   go_wp2_with fail
   refine hN.out.mono ?_
   rintro e w4 ⟨rfl, hb4⟩
   have hsc4 := hsc.below hb4 hsc.lt
   have hown4 := own_below hown hb4
   have hbl4 : Below w3.heap.size w3 w4 := HBEL_trans hb hb4
   have hlt4 := hbl4.size
   have H4 := hid (And.intro hsc4 (And.intro hown4 hbl4))
   clear hsc hown hb hb4 hN hown4 hbl4 hsc4
   by_cases h0 : er = 0
   ·subst h0
    by_cases hfull : acc.length = 5000
    ·have hl5 : (((acc.length : Nat) : Int) == 5000) = true := by simp; omega
     have hx := HX.out
     rw [if_pos ⟨rfl, hfull⟩] at hx
     have HX2 := hid hx
     clear hx hfull
     go_wp2
     go_ret3
     exact lexPost_mk HX2.out (own_nil _ _ _ _) (hbel3.trans ((H4.out.2.2.alloc hlt4 _).mono (by omega)))
    ·have hl5 : (((acc.length : Nat) : Int) == 5000) = false := by simp; omega
     have hx := HX.out
     rw [if_neg (fun h => hfull h.2), if_neg (by simp)] at hx
     have HX2 := hid hx
     have hnb := HNB.out rfl
     have hgb := gapS_bounds s (i := en.toNat) (by omega)
     have HG := hid hgb
     obtain ⟨m, rfl⟩ : ∃ m : Nat, en = m := ⟨en.toNat, by omega⟩
     simp only [Int.toNat_natCast] at hgb hnb
     have hlt4' : w3.heap.size ≤ w4.heap.size := hlt4
     clear hx
     go_wp2_with (at_builtin; refine wpList_append1 rfl (.tmp 41) (.tmp 43) _ rfl Tryz.underlying152 Tryz.eTok rfl ((H4.out.2.1.alloc _).alloc _) rfl (news := [.int .i64 kd, .int .i64 ps, .int .i64 nu, .string tx]) rfl (blk_cells (blk_new1 _ _ _ _)) (by simp [Value.oneCell']) (by unfold maxLen; omega) (by omega) (by simp; omega) ?_; intro v1 w5 hown5 hg5 hat5)
     have hb5 : Below w3.heap.size w3 w5 := below_own ((H4.out.2.2.alloc hlt4 _).alloc (by simp; omega) _) ((H4.out.2.1.alloc _).alloc _) hg5 (by simp; omega) (Nat.le_refl _)
     have hsc5 : ScanAt w5 w1.heap.size s := by
      have hsc := (H4.out.1.alloc (.cells #[.int .i64 kd, .int .i64 ps, .int .i64 nu, .string tx] 156)).alloc (.cells #[.int .i64 kd, .int .i64 ps, .int .i64 nu, .string tx] 156)
      have hbb : Below w3.heap.size _ w5 := below_own (.refl _ _) ((H4.out.2.1.alloc _).alloc _) hg5 (by simp; omega) (Nat.le_refl _)
      exact hsc.below hbb hSb3
     have HH := hid (And.intro hown5 (And.intro hb5 hsc5))
     clear hown5 hg5 hat5 hb5 hsc5
     go_wp2_with fail
     refine (gap_any w1.heap.size s m w5 HH.out.2.2 (by omega) (by omega) (by omega)).mono ?_
     rintro e w6 ⟨rfl, hb6⟩
     go_wp2
     go_roundw
     case rel =>
      refine ⟨gapS s m, f, acc ++ [⟨kd, ps, nu, tx⟩], by omega, by simp, by omega, (by have := HX2.out; rw [Int.toNat_natCast] at this; exact this.symm), by simp; omega, ?_, HH.out.2.2.below hb6 HH.out.2.2.lt, HBEL_trans HH.out.2.1 hb6⟩
      have := own_below HH.out.1 hb6
      simpa [Tok.cells] using this
     case measure => simp [intOf]; omega
   ·have hx := HX.out
    rw [if_neg (fun h => h0 h.1), if_pos h0] at hx
    have HX2 := hid hx
    have h0' : (er == (0 : Int)) = false := by simp [h0]
    have h0'' : (er != (0 : Int)) = true := by simp [h0]
    clear hx h0
    go_wp2
    go_ret3
    exact lexPost_mk HX2.out (own_nil _ _ _ _) (hbel3.trans ((H4.out.2.2.alloc hlt4 _).mono (by omega)))
  ·have hx : lexS s = (acc, 0, 0) := by rw [← hlex.out, lexT, if_neg hlt]
   have HX := hid hx
   clear hx
   go_wp2
   go_ret3
   exact lexPost_mk HX.out (own_mono hown (by omega)) (hbel3.trans (hb.mono (by omega)))
theorem lex_any (s : ByteArray) (w : World) (hs : s.size ≤ 140737488355328) : Calls Tryz.prog 123 #[.string s] w (LexPost s w) := by
 by_cases h : s.size ≤ 20000
 ·exact lex_short s w h
 ·exact lex_long s w (by omega) hs
end Go.Proofs.YtcigjmlileckhaaGreatDoor
/- What an identifier is: one token, a name, the whole text. No program in sight. -/
namespace Go.Proofs.YtcigjmlileckhaaGreatDoor
open Go.RowKit
/-- Is a text just one name? -/
def identS (s : ByteArray) : Bool := match lexS s with
 | ([t], 0, _) => t.kind == 1 && decide (t.text = s)
 | _ => false
def NameTok (s : ByteArray) (t : Tok) : Prop := t.kind = 1 → ∃ i k, t.text = s.extract i k ∧ i < k ∧ k ≤ s.size ∧ k - i ≤ 24 ∧ classAt s i = 3 ∧ ∀ j, i ≤ j → j < k → [3, 4, 5].contains (classAt s j) = true
theorem nextS_name {s : ByteArray} {i : Nat} (hi : i < s.size) : NameTok s (nextS s i).1 := by
 intro hk
 unfold nextS at hk ⊢
 by_cases h3 : classAt s i = 3
 ·rw [if_pos h3] at hk ⊢
  by_cases hl : 24 < runEnd s [3, 4, 5] i - i
  ·rw [if_pos hl] at hk; simp [tok0] at hk
  ·rw [if_neg hl]
   obtain ⟨h1, h2, h4, h5⟩ := runEnd_spec s [3, 4, 5] (i := i) (by omega)
   have hlt : i < runEnd s [3, 4, 5] i := by
    rcases Nat.lt_or_ge i (runEnd s [3, 4, 5] i) with h' | h'
    ·exact h'
    ·have e : runEnd s [3, 4, 5] i = i := by omega
     have := h5 (by omega)
     rw [e, h3] at this; simp at this
   exact ⟨i, _, rfl, hlt, h2, by omega, h3, h4⟩
 ·rw [if_neg h3] at hk
  exfalso
  revert hk
  repeat' split
  all_goals simp [tok0]
theorem lexT_names {s : ByteArray} : ∀ f i acc, (∀ t ∈ acc, NameTok s t) → ∀ t ∈ (lexT s f i acc).1, NameTok s t
 | 0, _, acc, h => h
 | f + 1, i, acc, h => by
  unfold lexT
  by_cases hi : i < s.size
  ·rw [if_pos hi]
   split
   ·simp
   ·split
    ·simp
    ·refine lexT_names f _ _ (fun t ht => ?_)
     rw [List.mem_append] at ht
     rcases ht with ht | ht
     ·exact h t ht
     ·simp at ht; rw [ht]; exact nextS_name hi
  ·rw [if_neg hi]; exact h
theorem lexS_names {s : ByteArray} : ∀ t ∈ (lexS s).1, NameTok s t := by
 unfold lexS
 split
 ·simp
 ·exact lexT_names _ _ _ (by simp)
theorem classOf_345 {b : UInt8} : [3, 4, 5].contains (classOf b) = (isLetter b || isDig b) := by
 have key : ∀ n : Fin 256, ([3, 4, 5].contains (classOf (UInt8.ofNat n.val)) : Bool) = (isLetter (UInt8.ofNat n.val) || isDig (UInt8.ofNat n.val)) := by decide +kernel
 have := key ⟨b.toNat, b.toNat_lt⟩
 rwa [UInt8.ofNat_toNat] at this
theorem classOf_3 {b : UInt8} : classOf b = 3 ↔ isLetter b = true := by
 have key : ∀ n : Fin 256, decide (classOf (UInt8.ofNat n.val) = 3) = isLetter (UInt8.ofNat n.val) := by decide +kernel
 have := key ⟨b.toNat, b.toNat_lt⟩
 rw [UInt8.ofNat_toNat] at this
 rw [← this]; simp
theorem isName_iff {s : ByteArray} : isName s.data.toList = true ↔ 0 < s.size ∧ s.size ≤ 24 ∧ classAt s 0 = 3 ∧ ∀ j, j < s.size → [3, 4, 5].contains (classAt s j) = true := by
 have hl : s.data.toList.length = s.size := by simp
 constructor
 ·intro h
  cases hs : s.data.toList with
  | nil => rw [hs] at h; simp [isName] at h
  | cons c r =>
   rw [hs] at h hl
   unfold isName at h
   rw [Bool.and_eq_true, Bool.and_eq_true] at h
   obtain ⟨⟨h1, h2⟩, h3⟩ := h
   have h0 : 0 < s.size := by rw [← hl]; simp
   have e0 : s[0] = c := by
    have := getElem_toList h0
    rw [hs] at this; simpa using this.symm
   refine ⟨h0, by rw [← hl]; simpa using h3, by rw [classAt_lt h0, e0]; exact classOf_3.2 h1, fun j hj => ?_⟩
   rw [classAt_lt hj, classOf_345]
   have ej := getElem_toList hj
   rw [hs] at ej
   cases j with
   | zero => simp at ej; rw [← ej, h1]; rfl
   | succ j => simp at ej; exact (List.all_eq_true.1 h2) _ (List.mem_of_getElem? ej)
 ·rintro ⟨h0, h24, h3, h⟩
  cases hs : s.data.toList with
  | nil => rw [hs] at hl; simp at hl; omega
  | cons c r =>
   have e0 : s[0] = c := by
    have := getElem_toList h0
    rw [hs] at this; simpa using this.symm
   unfold isName
   rw [classAt_lt h0, e0] at h3
   rw [Bool.and_eq_true, Bool.and_eq_true]
   refine ⟨⟨classOf_3.1 h3, ?_⟩, ?_⟩
   ·rw [List.all_eq_true]
    intro x hx
    obtain ⟨j, hj, rfl⟩ := List.getElem_of_mem hx
    rw [hs] at hl
    have hj1 : j + 1 < s.size := by rw [← hl]; simp; omega
    have := h (j + 1) hj1
    rw [classAt_lt hj1, classOf_345] at this
    have ej := getElem_toList hj1
    rw [hs] at ej
    simp [hj] at ej
    rw [ej]; exact this
   ·rw [hs] at hl; simp only [decide_eq_true_eq]; omega
theorem extract_all (s : ByteArray) : s.extract 0 s.size = s := by
 have : (s.extract 0 s.size).data.toList = s.data.toList := by
  rw [Lib.extract_data]; simp
  exact List.take_of_length_le (by simp)
 cases s; 
 rename_i d
 have h2 := Array.toList_inj.1 this
 cases he : ByteArray.extract ⟨d⟩ 0 (ByteArray.size ⟨d⟩)
 rw [he] at h2
 simpa using h2
theorem identS_eq (s : ByteArray) : identS s = isName s.data.toList := by
 rw [Bool.eq_iff_iff]
 constructor
 ·intro h
  have hn := lexS_names (s := s)
  unfold identS at h
  split at h
  ·rename_i t x heq
   rw [Bool.and_eq_true] at h
   have hk : t.kind = 1 := by simpa using h.1
   have ht : t.text = s := by simpa using h.2
   obtain ⟨i, k, h1, h2, h3, h4, h5, h6⟩ := hn t (by rw [heq]; simp) hk
   rw [ht] at h1
   have hsz : s.size = k - i := by
    have := congrArg ByteArray.size h1
    simp at this; omega
   obtain rfl : i = 0 := by omega
   obtain rfl : k = s.size := by omega
   exact isName_iff.2 ⟨h2, by omega, h5, fun j hj => h6 j (Nat.zero_le _) hj⟩
  ·simp at h
 ·intro h
  obtain ⟨h0, h24, h3, h⟩ := isName_iff.1 h
  have hr1 : runEnd s [1] 0 = 0 := runEnd_eq (Nat.le_refl _) (by omega) (fun j a b => by omega) (fun _ => by rw [h3]; rfl)
  have hr2 : runEnd s [3, 4, 5] 0 = s.size := runEnd_eq (Nat.zero_le _) (Nat.le_refl _) (fun j _ b => h j b) (fun hh => absurd hh (Nat.lt_irrefl _))
  have hr3 : runEnd s [1] s.size = s.size := runEnd_eq (Nat.le_refl _) (Nat.le_refl _) (fun j a b => by omega) (fun hh => absurd hh (Nat.lt_irrefl _))
  have hg0 : gapS s 0 = 0 := by
   unfold gapS
   rw [hr1, gapT, if_neg (by rw [h3]; decide)]
  have hg1 : gapS s s.size = s.size := by
   unfold gapS
   rw [hr3, gapT, if_neg (by rw [classAt_ge (Nat.le_refl _)]; decide)]
  have hnx : nextS s 0 = (⟨1, 0, 0, s⟩, (s.size : Int), 0) := by
   unfold nextS
   rw [if_pos h3, hr2, if_neg (by omega), extract_all]; rfl
  have hlex : lexS s = ([⟨1, 0, 0, s⟩], 0, 0) := by
   unfold lexS
   rw [if_neg (by omega), hg0, lexT, if_pos h0, hnx]
   simp only [List.length_nil, List.nil_append]
   rw [if_neg (by omega), if_neg (by omega), Int.toNat_natCast, hg1]
   obtain ⟨n, hn⟩ : ∃ n, s.size = n + 1 := ⟨s.size - 1, by omega⟩
   have : ∀ f acc, lexT s f s.size acc = (acc, 0, 0) := by
    intro f acc
    cases f with
    | zero => rfl
    | succ f => rw [lexT, if_neg (Nat.lt_irrefl _)]
   rw [this]
  unfold identS
  rw [hlex]
  simp
end Go.Proofs.YtcigjmlileckhaaGreatDoor
/- Walks of package formula: identifier, key. -/
namespace Go.Proofs.YtcigjmlileckhaaGreatDoor
open Go.RowKit
theorem identS_no {s : ByteArray} (h : (lexS s).2.1 ≠ 0 ∨ (lexS s).1.length ≠ 1) : identS s = false := by
 unfold identS
 split
 ·rename_i heq; rw [heq] at h; simp at h
 ·rfl
theorem identS_one {s : ByteArray} {t : Tok} {e : Int} (h : lexS s = ([t], 0, e)) : identS s = (t.kind == 1 && decide (t.text = s)) := by
 unfold identS; rw [h]; rfl
set_option maxRecDepth 100000 in
set_option maxHeartbeats 1000000 in
theorem identifier_any (s : ByteArray) (w : World) (hs : s.size ≤ 140737488355328) :
  Calls Tryz.prog 99 #[.string s] w fun e w' => e = .returned (.bool (identS s)) ∧ Below w.heap.size w w' := by
 have HL := hid (lex_any s w hs)
 have HR := hid (@identS_no s)
 have HO := hid (fun t e => @identS_one s t e)
 go_enter Tryz.func99, Tryz.ntmps99
 go_wp2_with fail
 refine HL.out.mono ?_
 unfold LexPost
 rintro e w1 ⟨v, rfl, hown, hb⟩
 obtain ⟨ts, n, ee⟩ : ∃ x, x = lexS s := ⟨_, rfl⟩
 generalize hl : lexS s = L at *
 obtain ⟨ts, n, ee⟩ := L
 dsimp only at *
 obtain ⟨A, cap, rfl, hcap, hsm, hown2⟩ := Row.of_own hown (by decide)
 by_cases hn : n = 0
 ·subst hn
  by_cases h1 : ts.length = 1
  ·obtain ⟨t, rfl⟩ : ∃ t, ts = [t] := by
    cases ts with
    | nil => simp at h1
    | cons t r => cases r with
     | nil => exact ⟨t, rfl⟩
     | cons _ _ => simp at h1
   have HI := hid (HO.out _ _ rfl)
   obtain ⟨b, off, rfl, hz, hcs⟩ := hown2 (by simp [Tok.cells])
   obtain ⟨c0, c1, c2, c3⟩ := four_cells (fun j u hu => hcs j u (by simpa [Tok.cells] using hu))
   clear hcs hl hown2 hown
   simp only [List.length_cons, List.length_nil, Nat.zero_add] at *
   go_wp2
   all_goals (go_ret; exact ⟨ret_bool (by rw [HI.out]; first | (simp_all; done) | (rw [toList_beq]; simp_all)), hb⟩)
  ·have HI := hid (HR.out (.inr h1))
   have h1' : ((ts.length : Int) == 1) = false := by simp; omega
   clear h1 hl
   go_wp2
   go_ret
   exact ⟨ret_bool (by rw [HI.out]), hb⟩
 ·have HI := hid (HR.out (.inl hn))
  have hn' : (n == 0) = false := by simp [hn]
  clear hl
  go_wp2
  go_ret
  exact ⟨ret_bool (by rw [HI.out]), hb⟩
def keys5 : List ByteArray := [⟨#[111, 114]⟩, ⟨#[97, 110, 100]⟩, ⟨#[110, 111, 116]⟩, ⟨#[116, 114, 117, 101]⟩, ⟨#[102, 97, 108, 115, 101]⟩]
def keyS (s : ByteArray) : Bool := Lib.containsS keys5 s
set_option maxRecDepth 100000 in
set_option maxHeartbeats 1000000 in
theorem key_any (s : ByteArray) (w : World) :
  Calls Tryz.prog 100 #[.string s] w fun e w' => e = .returned (.bool (keyS s)) ∧ Below w.heap.size w w' := by
 let W := w.alloc (.cells #[.string ⟨#[111, 114]⟩, .string ⟨#[97, 110, 100]⟩, .string ⟨#[110, 111, 116]⟩, .string ⟨#[116, 114, 117, 101]⟩, .string ⟨#[102, 97, 108, 115, 101]⟩] 9)
 have HC := hid (Tryz.slices_Contains_string w.heap.size 0 5 5 keys5 s W (by decide) (by decide) (fun j hj => by
  have : j < 5 := hj
  match j, this with
  | 0, _ => simp [W, keys5]
  | 1, _ => simp [W, keys5]
  | 2, _ => simp [W, keys5]
  | 3, _ => simp [W, keys5]
  | 4, _ => simp [W, keys5]))
 go_enter Tryz.func100, Tryz.ntmps100
 go_wp2_with fail
 refine HC.out.mono ?_
 rintro e w1 ⟨rfl, rfl⟩
 go_wp2
 go_ret
 exact ⟨rfl, (Below.refl _ _).alloc (Nat.le_refl _) _⟩
end Go.Proofs.YtcigjmlileckhaaGreatDoor
