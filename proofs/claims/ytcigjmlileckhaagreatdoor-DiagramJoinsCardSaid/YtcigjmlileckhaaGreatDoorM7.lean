/- Walks of slices.IndexFunc at numbers, diagram.next. Walk of diagram.Holds. -/
import Derived.Test.YtcigjmlileckhaaGreatDoorM5
import Derived.Test.YtcigjmlileckhaaGreatDoorM6
import Derived.Test.YtcigjmlileckhaaGreatDoorM1
import Derived.Deep.RegionHeld3
/- Walks of slices.IndexFunc at numbers, diagram.next. -/
namespace Go.Proofs.YtcigjmlileckhaaGreatDoor
open Go.RowKit
/-- A function value that says p of numbers. -/
def PredI (P : Program) (g : FuncId) (lb : Array Value) (w : World) (xs : List Int) (p : Int → Bool) : Prop :=
 ∀ x ∈ xs, ∀ W, Below w.heap.size w W → Calls P g (#[.int .i64 x] ++ lb) W fun e W' => e = .returned (.bool (p x)) ∧ Below W.heap.size W W'
set_option maxRecDepth 100000 in
set_option maxHeartbeats 1000000 in
theorem indexFuncInt_any (g : FuncId) (lb : Array Value) (eg : ∀ args w, (callFunc g args).run Tryz.prog w = .ok (.enter g args) w) (Z : Zone) (v : Value) (xs : List Int) (p : Int → Bool) (w : World)
  (hs : Ints Z w v xs) (hp : PredI Tryz.prog g lb w xs p) :
  Calls Tryz.prog 62 #[v, .func (.func g) #[] lb] w fun e w' => e = .returned (.int .i64 (firstIdx (fun i => p (xs.getD i 0)) xs.length 0)) ∧ Below w.heap.size w w' := by
 have HP := hid hp
 have HS := hid hs
 clear hp
 obtain ⟨⟨A, cap, rfl, hcap, hcap2, hlen, -⟩, -⟩ := hs
 go_enter Tryz.func62, Tryz.ntmps62
 go_wp2
 go_loopw [8] (fun i wr => ∃ k : Nat, k ≤ xs.length ∧ i = .int .i64 k ∧ Below w.heap.size w wr ∧ Hid (∀ j, 0 ≤ j → j < k → (fun i => p (xs.getD i 0)) j = false)) (fun i _ => xs.length - (intOf i).toNat)
 case atStart => exact ⟨0, Nat.zero_le _, rfl, Below.refl _ _, fun j _ h => absurd h (Nat.not_lt_zero j)⟩
 case round =>
  obtain ⟨k, hk, rfl, hbel, hno⟩ := hrel
  by_cases hlt : k < xs.length
  ·obtain ⟨b, off, rfl, hz, hb, hc⟩ := HS.out.at_ hlt
   have hc2 := (hbel.cell (p := ⟨b, off + k, none⟩) hb).trans hc
   have hbr : b < wr.heap.size := lt_of_cell hc2
   clear hc
   have HC := hid (HP.out _ (List.getElem_mem hlt) _ hbel)
   have HBELW := hid hbel
   have hgd : xs.getD k 0 = xs[k] := by simp [List.getD_eq_getElem?_getD, hlt]
   have HGD := hid hgd
   clear hbel hgd
   cases hpk : p xs[k]
   all_goals
    have HPK := hid hpk
    have HC' := HC.out
    rw [hpk] at HC'
    clear hpk
    have HC2 := hid HC'
    clear HC'
    go_wp2_with fail
    refine HC2.out.mono ?_
    rintro e w1 ⟨rfl, hb1⟩
    go_wp2
   ·go_roundw
    case rel => exact ⟨k + 1, by omega, by go_num, (HBEL_trans HBELW.out hb1), fun j h1 h2 => by
     by_cases e : j = k
     ·subst e; show p (xs.getD j 0) = false; rw [HGD.out]; exact HPK.out
     ·exact hno.out j h1 (by omega)⟩
    case measure => simp [intOf]; omega
   ·go_ret
    exact ⟨ret_int (firstIdx_hit hno.out (Nat.zero_le _) (by omega) (by show p (xs.getD k 0) = true; rw [HGD.out]; exact HPK.out)).symm, HBEL_trans HBELW.out hb1⟩
  ·obtain rfl : k = xs.length := by omega
   go_wp2
   go_ret
   exact ⟨ret_int (firstIdx_miss (fun j h1 h2 => hno.out j h1 (by omega))).symm, hbel⟩
theorem nx_first (v : Int) : ∀ (l : List Int) (i : Nat) (m : List Int), m.length = i → firstIdx (fun j => decide (v < (m ++ l).getD j 0)) l.length i = if nx l v < l.length then ((i + nx l v : Nat) : Int) else -1
 | [], i, m, h => by simp [firstIdx, nx]
 | c :: r, i, m, h => by
  have e : (m ++ c :: r).getD i 0 = c := by subst h; simp [List.getD_eq_getElem?_getD]
  have ih := nx_first v r (i + 1) (m ++ [c]) (by simp [h])
  rw [show m ++ [c] ++ r = m ++ c :: r by simp] at ih
  rw [List.length_cons, firstIdx]
  simp only [e, decide_eq_true_eq]
  unfold nx
  by_cases hv : v < c
  ·rw [if_pos hv, if_pos hv, if_pos (by omega), Nat.add_zero]
  ·rw [if_neg hv, if_neg hv, ih]
   by_cases hn : nx r v < r.length
   ·rw [if_pos hn, if_pos (by omega)]; congr 1; omega
   ·rw [if_neg hn, if_neg (by omega)]
theorem nx_first0 (v : Int) (l : List Int) : firstIdx (fun j => decide (v < l.getD j 0)) l.length 0 = if nx l v < l.length then (nx l v : Int) else -1 := by
 have := nx_first v l 0 [] rfl
 simpa using this
set_option maxRecDepth 100000 in
set_option maxHeartbeats 1000000 in
theorem next1_any (B : Nat) (v c : Int) (W : World) (hB : W.cell? ⟨B, 0, none⟩ = some (.int .i64 v)) :
  Calls Tryz.prog 104 #[.int .i64 c, .pointer (some ⟨B, 0, none⟩)] W fun e W' => e = .returned (.bool (decide (v < c))) ∧ Below W.heap.size W W' := by
 have hlt : B < W.heap.size := lt_of_cell hB
 go_enter Tryz.func104, Tryz.ntmps104
 go_wp2
 go_ret
 exact ⟨rfl, Below.refl _ _⟩
set_option maxRecDepth 100000 in
set_option maxHeartbeats 1000000 in
theorem dnext_any (Z : Zone) (n : NodeD) (cs : List Value) (v : Int) (w : World) (hn : NodeR Z w cs n) :
  Calls Tryz.prog 57 #[.agg cs.toArray, .int .i64 v] w fun e w' => e = .returned (.int .i64 (nxL n v)) ∧ Below w.heap.size w w' := by
 obtain ⟨vc, vk, rfl, hf, hc, hk⟩ := hn
 have eg : ∀ args w, (callFunc 104 args).run Tryz.prog w = .ok (.enter 104 args) w := enters_of Tryz.func104 (by kernel_rfl) rfl
 have hk2 : Keeps Z w ((w.alloc (.cells #[.bool n.leaf, .int .i64 n.fact, vc, vk] 55)).alloc (.cells #[.int .i64 v] 3)) := ((Keeps.refl _ _).alloc _).alloc _
 have HC := hid (indexFuncInt_any 104 #[.pointer (some ⟨w.heap.size + 1, 0, none⟩)] eg Z vc n.cuts (fun c => decide (v < c)) ((w.alloc (.cells #[.bool n.leaf, .int .i64 n.fact, vc, vk] 55)).alloc (.cells #[.int .i64 v] 3)) (hc.keep hk2) (fun c _ W hW => by
  refine next1_any (w.heap.size + 1) v c W (by rw [hW.cell (by simp)]; simp)))
 rw [nx_first0] at HC
 obtain ⟨⟨A, cap, rfl, hcap, hcap2, hlen, -⟩, -⟩ := hc
 obtain ⟨⟨AK, capK, rfl, hcapK, hcapK2, hlenK, -⟩, -⟩ := hk
 have hnl : nx n.cuts v < n.cuts.length → (nx n.cuts v : Int) ≤ 17592186044416 := fun h => by omega
 have HNL : Hid (nxL n v = if nx n.cuts v < n.cuts.length then (nx n.cuts v : Int) else (n.kids.length : Int) - 1) := hid rfl
 by_cases h : nx n.cuts v < n.cuts.length
 ·have hb := hnl h
  rw [if_pos h] at HC HNL
  have h0 : decide ((nx n.cuts v : Int) < 0) = false := by simp
  clear h hnl
  generalize nx n.cuts v = q at *
  go_enter Tryz.func57, Tryz.ntmps57
  go_wp2_with fail
  refine HC.out.mono ?_
  rintro e w1 ⟨rfl, hb1⟩
  have hbw := HBEL_trans (HBEL_trans (below1 w _) (below1 _ _)) hb1 (by simp)
  go_wp2
  go_ret
  exact ⟨ret_int HNL.out.symm, hbw⟩
 ·rw [if_neg h] at HC HNL
  clear h hnl
  go_enter Tryz.func57, Tryz.ntmps57
  go_wp2_with fail
  refine HC.out.mono ?_
  rintro e w1 ⟨rfl, hb1⟩
  have hbw := HBEL_trans (HBEL_trans (below1 w _) (below1 _ _)) hb1 (by simp)
  have c3 : w1.cell? ⟨w.heap.size, 3, none⟩ = some (.slice AK n.kids.length capK) := by rw [hb1.cell (p := ⟨w.heap.size, 3, none⟩) (by simp; omega)]; simp
  have c3l := lt_of_cell c3
  go_wp2
  go_ret
  exact ⟨ret_int HNL.out.symm, hbw⟩
end Go.Proofs.YtcigjmlileckhaaGreatDoor
/- Walk of diagram.Holds. -/
namespace Go.Proofs.YtcigjmlileckhaaGreatDoor
open Go.RowKit
theorem holdsD_step (g : List NodeD) (c : List Int) (k : Nat) (a : Int) : holdsD g c (k + 1) a =
  if a < 0 ∨ (g.length : Int) ≤ a then false
  else if (nAt g a).kids = [] then (nAt g a).leaf
  else if (nAt g a).fact < 0 ∨ (c.length : Int) ≤ (nAt g a).fact then false
  else if ((nAt g a).kids.length : Int) ≤ nxL (nAt g a) (c.getD (nAt g a).fact.toNat 0) then false
  else holdsD g c k ((nAt g a).kids.getD (nxL (nAt g a) (c.getD (nAt g a).fact.toNat 0)).toNat 0) := rfl
theorem nxL_nonneg {n : NodeD} (h : n.kids ≠ []) (v : Int) : 0 ≤ nxL n v := by
 have := List.length_pos_iff.2 h
 unfold nxL; split <;> omega
/-- A slice of nodes, opened. -/
theorem Nodes.open_ {Z : Zone} {w : World} {v : Value} {ns : List NodeD} (h : Nodes Z w v ns) : ∃ A cap, v = .slice A ns.length cap ∧ ns.length ≤ cap ∧ ns.length ≤ 2199023255552 ∧
  ∀ i (hi : i < ns.length), ∃ b off vc vk, A = some ⟨b, off, none⟩ ∧ Z b ∧ b < w.heap.size ∧ w.cell? ⟨b, off + i * 4, none⟩ = some (.bool ns[i].leaf) ∧ w.cell? ⟨b, off + i * 4 + 1, none⟩ = some (.int .i64 ns[i].fact) ∧
   w.cell? ⟨b, off + i * 4 + 2, none⟩ = some vc ∧ w.cell? ⟨b, off + i * 4 + 3, none⟩ = some vk ∧ I64 ns[i].fact ∧ Ints Z w vc ns[i].cuts ∧ Ints Z w vk ns[i].kids := by
 obtain ⟨A, cap, rfl, h1, h2, h3, h4⟩ := h
 refine ⟨A, cap, rfl, h1, by omega, fun i hi => ?_⟩
 obtain ⟨b, off, cs, rfl, hz, hc, vc, vk, rfl, hf, hic, hik⟩ := h4.at_ hi
 exact ⟨b, off, vc, vk, rfl, hz, lt_of_cell (hc 0 _ rfl), hc 0 _ rfl, hc 1 _ rfl, hc 2 _ rfl, hc 3 _ rfl, hf, hic, hik⟩
set_option maxRecDepth 100000 in
set_option maxHeartbeats 4000000 in
theorem dholds_any (Z : Zone) (v vc : Value) (g : List NodeD) (c : List Int) (w : World) (hg : Nodes Z w v g) (hc : Ints Z w vc c) :
  Calls Tryz.prog 17 #[.agg #[v], vc] w fun e w' => e = .returned (.bool (holdsD g c g.length 0)) ∧ Below w.heap.size w w' := by
 obtain ⟨A, cap, rfl, hcap, hlen, hat⟩ := hg.open_
 have HAT := hid hat
 have HC := hid hc
 obtain ⟨⟨C, ccap, rfl, hccap, hccap2, hclen, -⟩, -⟩ := hc
 clear hat hg
 go_enter Tryz.func17, Tryz.ntmps17
 go_wp2
 go_loopw [5, 11] (fun a i wr => ∃ (k : Nat) (x : Int), k ≤ g.length ∧ i = .int .i64 k ∧ a = .int .i64 x ∧ wr.cell? ⟨w.heap.size, 0, none⟩ = some (.slice A g.length cap) ∧ Below w.heap.size w wr ∧ Hid (holdsD g c g.length 0 = holdsD g c (g.length - k) x)) (fun _ i _ => g.length - (intOf i).toNat)
 case atStart => exact ⟨0, 0, Nat.zero_le _, rfl, rfl, by simp, below1 w _, rfl⟩
 case round =>
  obtain ⟨k, x, hk, rfl, rfl, h0, hbel, hres⟩ := hrel
  by_cases hlt : k < g.length
  ·have h0l := lt_of_cell h0
   have HBEL := hid hbel
   have HRES := hid (show holdsD g c g.length 0 = holdsD g c (g.length - (k + 1) + 1) x from by rw [hres.out, show g.length - (k + 1) + 1 = g.length - k by omega])
   rw [holdsD_step] at HRES
   clear hres
   by_cases hx : x < 0 ∨ (g.length : Int) ≤ x
   ·rw [if_pos hx] at HRES
    by_cases hx0 : x < 0
    ·have e1 : decide (x < 0) = true := by simpa using hx0
     clear hx hx0 hbel
     go_wp2
     go_ret
     rw [HRES.out]
     exact ⟨rfl, HBEL.out⟩
    ·have e1 : decide (x < 0) = false := by simpa using hx0
     have e2 : decide ((g.length : Int) ≤ x) = true := by simp; omega
     clear hx hx0 hbel
     go_wp2
     go_ret
     rw [HRES.out]
     exact ⟨rfl, HBEL.out⟩
   ·rw [if_neg hx] at HRES
    simp only [not_or, Int.not_lt, Int.not_le] at hx
    obtain ⟨i, rfl⟩ := Int.eq_ofNat_of_zero_le hx.1
    have hi : i < g.length := by have := hx.2; omega
    rw [nAt_nat hi] at HRES
    obtain ⟨b, off, vcu, vki, rfl, hz, hb, c0, c1, c2, c3, hf, hcu, hki⟩ := HAT.out i hi
    have hbr : b < wr.heap.size := by have := hbel.size; omega
    replace c0 := (hbel.cell (p := ⟨b, off + i * 4, none⟩) hb).trans c0
    replace c1 := (hbel.cell (p := ⟨b, off + i * 4 + 1, none⟩) hb).trans c1
    replace c2 := (hbel.cell (p := ⟨b, off + i * 4 + 2, none⟩) hb).trans c2
    replace c3 := (hbel.cell (p := ⟨b, off + i * 4 + 3, none⟩) hb).trans c3
    have HKI := hid hki
    have HCU := hid hcu
    have HHF := hid hf
    have hi1 : (i : Int) < (g.length : Int) := by omega
    have hi0 : (0 : Int) ≤ (i : Int) := by omega
    have e1 : decide ((i : Int) < 0) = false := by simp
    have e2 : decide ((g.length : Int) ≤ (i : Int)) = false := by simp; omega
    obtain ⟨⟨KU, kucap, rfl, -, -, hkulen, -⟩, -⟩ := hcu
    obtain ⟨⟨K, kcap, rfl, hkcap, -, hklen, -⟩, -⟩ := hki
    generalize g[i] = n at *
    clear hx hbel hf
    by_cases hkn : n.kids = []
    ·rw [if_pos hkn] at HRES
     have e3 : ((n.kids.length : Int) == 0) = true := by simp [hkn]
     clear hkn
     go_wp2
     go_ret
     rw [HRES.out]
     exact ⟨rfl, HBEL.out.alloc HBEL.out.size _⟩
    ·rw [if_neg hkn] at HRES
     have e3 : ((n.kids.length : Int) == 0) = false := by simp [hkn]
     have hnn := nxL_nonneg hkn (c.getD n.fact.toNat 0)
     clear hkn
     by_cases hf : n.fact < 0 ∨ (c.length : Int) ≤ n.fact
     ·rw [if_pos hf] at HRES
      by_cases hf0 : n.fact < 0
      ·have e4 : decide (n.fact < 0) = true := by simpa using hf0
       clear hf hf0 hnn
       go_wp2
       go_ret
       rw [HRES.out]
       exact ⟨rfl, HBEL.out.alloc HBEL.out.size _⟩
      ·have e4 : decide (n.fact < 0) = false := by simpa using hf0
       have e5 : decide ((c.length : Int) ≤ n.fact) = true := by simp; omega
       clear hf hf0 hnn
       go_wp2
       go_ret
       rw [HRES.out]
       exact ⟨rfl, HBEL.out.alloc HBEL.out.size _⟩
     ·rw [if_neg hf] at HRES
      simp only [not_or, Int.not_lt, Int.not_le] at hf
      have e4 : decide (n.fact < 0) = false := by simp; omega
      have e5 : decide ((c.length : Int) ≤ n.fact) = false := by simp; omega
      obtain ⟨fi, hfi⟩ := Int.eq_ofNat_of_zero_le hf.1
      have hfl : fi < c.length := by have := hf.2; omega
      obtain ⟨cb, coff, rfl, -, hcb, hcc⟩ := HC.out.at_ hfl
      have hcc2 := (HBEL.out.cell (p := ⟨cb, coff + fi, none⟩) hcb).trans hcc
      have hcbr := lt_of_cell hcc2
      have hcv : c.getD n.fact.toNat 0 = c[fi] := by rw [hfi]; simp [List.getD_eq_getElem?_getD, hfl]
      rw [hcv] at HRES hnn
      have hfi1 : (fi : Int) < (c.length : Int) := by omega
      have hfi0 : (0 : Int) ≤ (fi : Int) := by omega
      have HN := hid (dnext_any Z n [.bool n.leaf, .int .i64 n.fact, .slice KU n.cuts.length kucap, .slice K n.kids.length kcap] c[fi])
      have HNR := hid (show NodeR Z w [.bool n.leaf, .int .i64 n.fact, .slice KU n.cuts.length kucap, .slice K n.kids.length kcap] n from ⟨_, _, rfl, HHF.out, HCU.out, HKI.out⟩)
      have HNX := hid (show nxL n c[fi] < (n.kids.length : Int) → n.kids.getD (nxL n c[fi]).toNat 0 = n.kids.getD (nxL n c[fi]).toNat 0 from fun _ => rfl)
      clear hf hcc hcb hcv
      generalize c[fi] = cv at *
      generalize hq : nxL n cv = q at *
      obtain ⟨nl, nf, nc, nk⟩ := n
      simp only at *
      subst hfi
      go_wp2
      have HNW := hid (fun W (hW : Below w.heap.size w W) => HN.out W (HNR.out.keep (.of_below hW)))
      have HBA := hid (fun o => (HBEL.out.alloc HBEL.out.size o))
      clear HN HNR HAT c0 c1 c2 c3
      go_region_held3 (fun w' => w'.cell? ⟨wr.heap.size, 0, none⟩ = some (.bool nl) ∧ w'.cell? ⟨wr.heap.size, 1, none⟩ = some (.int .i64 fi) ∧ w'.cell? ⟨wr.heap.size, 2, none⟩ = some (.slice KU nc.length kucap) ∧ w'.cell? ⟨wr.heap.size, 3, none⟩ = some (.slice K nk.length kcap) ∧ w'.cell? ⟨cb, coff + fi, none⟩ = some (.int .i64 cv)) (first | exact ⟨p0, p1, p2, p3, p4⟩ | (refine ⟨?_, ?_, ?_, ?_, ?_⟩ <;> go_keep))
       (first
        | (go_at_call 57; refine (HNW.out _ (HBA.out _).drew).mono ?_; rintro e w1 ⟨rfl, hb1⟩; have hx1 := (Blk.new wr 55 #[.bool nl, .int .i64 (fi : Int), .slice KU nc.length kucap, .slice K nk.length kcap]).drew.below hb1 (by simp [World.drew]); have p0 : w1.cell? ⟨wr.heap.size, 0, none⟩ = some (.bool nl) := hx1.cell 0; have p1 : w1.cell? ⟨wr.heap.size, 1, none⟩ = some (.int .i64 fi) := hx1.cell 1; have p2 : w1.cell? ⟨wr.heap.size, 2, none⟩ = some (.slice KU nc.length kucap) := hx1.cell 2; have p3 : w1.cell? ⟨wr.heap.size, 3, none⟩ = some (.slice K nk.length kcap) := hx1.cell 3; have p4 : w1.cell? ⟨cb, coff + fi, none⟩ = some (.int .i64 cv) := ((hb1.cell (p := ⟨cb, coff + fi, none⟩) (show cb < (wr.alloc _).heap.size from by rw [World.size_alloc]; omega)).trans (cell_alloc hcc2 _))))
      have hbw1 : Below w.heap.size w w1 := (HBA.out _).drew.trans (hb1.mono (HBA.out _).drew.size)
      have HB1 := hid (And.intro hbw1 ((hb1.cell (p := ⟨w.heap.size, 0, none⟩) (show w.heap.size < (wr.alloc _).heap.size from by rw [World.size_alloc]; omega)).trans (cell_alloc h0 _)))
      have hwl := hx1.lt
      clear hbw1 hb1 hx1 h0 hcc2 p0 p1 p2 p4 HBEL HBA HNW
      by_cases hql : (nk.length : Int) ≤ q
      ·rw [if_pos hql] at HRES
       have e6 : decide ((nk.length : Int) ≤ q) = true := by simpa using hql
       clear hql
       go_wp2
       go_ret
       rw [HRES.out]
       exact ⟨rfl, HB1.out.1⟩
      ·rw [if_neg hql] at HRES
       have e6 : decide ((nk.length : Int) ≤ q) = false := by simpa using hql
       obtain ⟨qn, rfl⟩ := Int.eq_ofNat_of_zero_le hnn
       have hqn : qn < nk.length := by omega
       obtain ⟨kb, koff, rfl, -, hkb, hkc⟩ := HKI.out.at_ hqn
       have hkc2 := (HB1.out.1.cell (p := ⟨kb, koff + qn, none⟩) hkb).trans hkc
       have hkbr := lt_of_cell hkc2
       have hkv : nk.getD ((qn : Nat) : Int).toNat 0 = nk[qn] := by simp [List.getD_eq_getElem?_getD, hqn]
       rw [hkv] at HRES
       have hq1 : ((qn : Nat) : Int) < (nk.length : Int) := by omega
       have hq0 : (0 : Int) ≤ ((qn : Nat) : Int) := by omega
       clear hkc hkb hql hkv hq hnn HNX
       generalize nk[qn] = kx at *
       go_wp2
       go_roundw
       case rel => exact ⟨k + 1, kx, by omega, by go_num, rfl, HB1.out.2, HB1.out.1, HRES⟩
       case measure => simp [intOf]; omega
  ·obtain rfl : k = g.length := by omega
   have HRES := hid hres.out
   rw [Nat.sub_self] at HRES
   clear hres
   go_wp2
   go_ret
   rw [HRES.out]
   exact ⟨rfl, hbel⟩
end Go.Proofs.YtcigjmlileckhaaGreatDoor
