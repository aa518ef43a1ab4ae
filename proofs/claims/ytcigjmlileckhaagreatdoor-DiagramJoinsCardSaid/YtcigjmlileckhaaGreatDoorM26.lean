/- Walk of the closures of diagram.starts. -/
import Derived.Test.YtcigjmlileckhaaGreatDoorM13
import Derived.Test.YtcigjmlileckhaaGreatDoorM24
/- Walk of the closures of diagram.starts. -/
namespace Go.Proofs.YtcigjmlileckhaaGreatDoor
open Go.RowKit
theorem Tryz.egStarts1 : ∀ args w, (callFunc 91 args).run Tryz.prog w = .ok (.enter 91 args) w := enters_of Tryz.func91 (by kernel_rfl) rfl
theorem Tryz.egStarts2 : ∀ args w, (callFunc 93 args).run Tryz.prog w = .ok (.enter 93 args) w := enters_of Tryz.func93 (by kernel_rfl) rfl
def prs (l : List Int) : List Int := l.flatMap fun n => [n, n + 1]
theorem prs_app (l m : List Int) : prs (l ++ m) = prs l ++ prs m := List.flatMap_append
mutual
theorem testN_len (nm : ByteArray) : ∀ f, (prs (testN nm f)).length ≤ 2 * fsize f
 | .mk op name _ nu kids => by
  have h := testNs_len nm kids
  rw [testN, prs_app, List.length_append, fsize]
  by_cases hc : op = 3 ∧ name = nm
  ·rw [if_pos hc]; simp [prs] at h ⊢; omega
  ·rw [if_neg hc]; simp [prs] at h ⊢; omega
theorem testNs_len (nm : ByteArray) : ∀ l, (prs (testNs nm l)).length ≤ 2 * fsizes l
 | [] => by simp [testNs, prs]
 | k :: r => by
  have h1 := testN_len nm k
  have h2 := testNs_len nm r
  rw [testNs, prs_app, List.length_append, fsizes]; omega
end
theorem testNs_take (nm : ByteArray) : ∀ (l : List Fm) (k : Nat) (hk : k < l.length), testNs nm (l.take (k + 1)) = testNs nm (l.take k) ++ testN nm l[k]
 | a :: r, 0, _ => by simp [testNs]
 | a :: r, k + 1, hk => by
  have := testNs_take nm r k (by simpa using hk)
  simp only [List.take_succ_cons, testNs, List.getElem_cons_succ]
  rw [this, List.append_assoc]
theorem testNs_mem (nm : ByteArray) {n : Int} : ∀ {l : List Fm}, (n ∈ testNs nm l ↔ ∃ k ∈ l, n ∈ testN nm k)
 | [] => by simp [testNs]
 | a :: r => by rw [testNs, List.mem_append, testNs_mem nm (l := r)]; simp
structure StC (w : World) (X O V B : Nat) (K : Zone) (x : FactD) (Z : Zone) : Prop where
 x : Blk w X 82 #[.string x.name, .int .i64 x.kind, .int .i64 x.lo, .int .i64 x.hi]
 v : One w V (.func (.func 91) #[] #[.pointer (some ⟨X, 0, none⟩), .pointer (some ⟨O, 0, none⟩), .pointer (some ⟨V, 0, none⟩)])
 off : ∀ b, (Z b ∨ b = X ∨ b = V) → K b
 o : ¬ K O
 size : B ≤ w.heap.size
 live : ∀ b, K b → b < w.heap.size
/-- The values found so far: a row of their own, not among what is kept. -/
def StO (w : World) (O B : Nat) (K : Zone) (xs : List Int) : Prop := ∃ vo, One w O vo ∧ w.ownsRow B 3 1 vo xs.length (xs.map (.int .i64)) ∧ ∀ k, vo.ownBlock = some k → ¬ K k ∧ k ≠ O
theorem StC.keep {w w' : World} {X O V B : Nat} {K : Zone} {x : FactD} {Z : Zone} (h : StC w X O V B K x Z) (hk : Keeps K w w') : StC w' X O V B K x Z :=
 ⟨h.x.keep hk (h.off _ (Or.inr (Or.inl rfl))), h.v.keep hk (h.off _ (Or.inr (Or.inr rfl))), h.off, h.o, Nat.le_trans h.size hk.size, fun b hb => Nat.lt_of_lt_of_le (h.live b hb) hk.size⟩
theorem StO.alloc {w : World} {O B : Nat} {K : Zone} {xs : List Int} (h : StO w O B K xs) (o : Obj) : StO (w.alloc o) O B K xs := by
 obtain ⟨vo, h1, h2, h3⟩ := h
 exact ⟨vo, h1.alloc o, h2.alloc o, h3⟩
theorem st_snoc {w wa w5 : World} {O B n : Nat} {K : Zone} {v v5 v0 : Value} {xs ys : List Int} {zs : List Value} (hb : Below w.heap.size w wa) (hO0 : ¬ K O) (hlive : ∀ b, K b → b < w.heap.size) (ho : w.ownsRow B 3 1 v n zs) (hne : ∀ k, v.ownBlock = some k → ¬ K k ∧ k ≠ O) (hO : One w O v0) (hg : wa.grownBy w5 v.ownBlock)
  (hat : v5.ownBlock = v.ownBlock ∨ v5.ownBlock = some wa.heap.size) (hown : w5.ownsRow B 3 1 v5 (xs.length + ys.length) (xs.map (.int .i64) ++ ys.map (.int .i64))) :
  One w5 O v0 ∧ StO (w5.setCell ⟨O, 0, none⟩ v5) O B K (xs ++ ys) ∧ Keeps K w (w5.setCell ⟨O, 0, none⟩ v5) ∧ ∀ b, w.heap.size ≤ b → b < wa.heap.size → (w5.setCell ⟨O, 0, none⟩ v5).heap[b]? = wa.heap[b]? := by
 have hOl := hO.lt
 have hO5 : One w5 O v0 := (hO.below hb hO.lt).of_block (hg.block O (Nat.lt_of_lt_of_le hO.lt hb.size) fun e => (hne O e.symm).2 rfl)
 have hn5 : ∀ k, v5.ownBlock = some k → ¬ K k ∧ k ≠ O := fun k hk => by
  rcases hat with h | h
  ·exact hne k (h ▸ hk)
  ·rw [h] at hk
   injection hk with hk
   have := hb.size
   exact ⟨fun hK => by have := hlive k hK; omega, by omega⟩
 refine ⟨hO5, ⟨v5, hO5.set_ v5, ?_, hn5⟩, ?_, fun b h1 h2 => ?_⟩
 ·have := own_keep (Z := fun c => c ≠ O) hown ((Keeps.refl _ _).setCell (p := ⟨O, 0, none⟩) (fun _ h => h rfl) v5) (fun k hk => (hn5 k hk).2)
  simpa using this
 ·exact ((Keeps.of_below hb).grown hg (fun k hk _ hz => (hne k hk).1 hz)).setCell (fun _ hz => hO0 hz) _
 ·exact (Below.heap_setCell _ _ _ _ (by show b ≠ O; omega)).trans (hg.block b h2 fun e => by have := (ho.lt b e.symm).2; omega)
theorem two_cells {w : World} {g : Nat} {u v : Value} (h : w.cell? ⟨g, 0, none⟩ = some u) (h' : w.cell? ⟨g, 1, none⟩ = some v) : ∀ j x, [u, v][j]? = some x → w.cell? ⟨g, 0 + j, none⟩ = some x := fun j x hx => by
 match j with
 | 0 => simp at hx; subst hx; simpa using h
 | 1 => simp at hx; subst hx; simpa using h'
 | j + 2 => simp at hx
set_option maxRecDepth 100000 in
set_option maxHeartbeats 4000000 in
theorem starts1_any (X O V B : Nat) (K : Zone) (x : FactD) (Z : Zone) : ∀ (m : Nat) (f : Fm), fsize f ≤ m → ∀ (cs : List Value) (xs : List Int) (w : World), FmR Z w f cs → xs.length + 2 * fsize f ≤ 4000000 → (∀ n ∈ testN x.name f, 0 ≤ n ∧ n ≤ 1000000) →
  StC w X O V B K x Z → StO w O B K xs →
  Calls Tryz.prog 91 #[.agg cs.toArray, .pointer (some ⟨X, 0, none⟩), .pointer (some ⟨O, 0, none⟩), .pointer (some ⟨V, 0, none⟩)] w fun e w' =>
   e = .returned (.tuple #[]) ∧ StO w' O B K (xs ++ prs (testN x.name f)) ∧ Keeps K w w' := by
 intro m
 induction m with
 | zero => intro f hm; have := fsize_pos f; omega
 | succ m ih =>
 intro f hm cs xs w hf hlen hbd hC hO
 have eg := Tryz.egStarts1
 have IH := hid ih
 clear ih
 obtain ⟨op, nm, cm, nu, kids⟩ := f
 unfold FmR at hf
 obtain ⟨_, _, _, _, A, cap, rfl, hcap, _, hkb, hks⟩ := hf
 have HS := hid (FmsR.seq hks)
 clear hks
 have hfs := fsize_eq (.mk op nm cm nu kids)
 simp only [Fm.kids] at hfs
 have hkl : kids.length ≤ 4000000 := by have h1 := length_le_fsizes kids; omega
 have hxl : xs.length ≤ 4000000 := by omega
 have HL := hid (And.intro hm (And.intro hlen hfs))
 have HBD := hid (fun k (hk : k ∈ kids) n (hn : n ∈ testN x.name k) => hbd n (by rw [testN]; exact List.mem_append_right _ ((testNs_mem _).2 ⟨k, hk, hn⟩)))
 have hnu : op = 3 ∧ nm = x.name → 0 ≤ nu ∧ nu ≤ 1000000 := fun h => hbd nu (by rw [testN, if_pos h]; simp)
 have HT := hid (show testN x.name (.mk op nm cm nu kids) = (if op = 3 ∧ nm = x.name then [nu] else []) ++ testNs x.name kids from by rw [testN])
 obtain ⟨vo, hov, hown, hne⟩ := hO
 have v1 := hC.v.cell
 have v2 := hC.v.lt
 have o1 := hov.cell
 have o2 := hov.lt
 have x1 : w.cell? ⟨X, 0, none⟩ = some (.string x.name) := hC.x.cell 0
 have x2 := hC.x.lt
 have HC := hid hC
 have hBs := hC.size
 clear hm hlen hfs hbd
 by_cases hT : op = 3 ∧ nm = x.name
 ·obtain ⟨rfl, rfl⟩ := hT
  obtain ⟨hn0, hn1⟩ := hnu ⟨rfl, rfl⟩
  rw [if_pos ⟨rfl, rfl⟩] at HT
  obtain ⟨A0, cap0, rfl, -, -, -⟩ := Row.of_own hown (by decide)
  have HOV := hid (And.intro hov (And.intro hown hne))
  clear hov hown hne hnu hC
  go_enter Tryz.func91, Tryz.ntmps91
  go_upto_region 3 with (at_builtin; refine wpList_append1 rfl (.tmp 17) (.tmp 23) _ rfl Tryz.underlying28 Tryz.eInt rfl ((HOV.out.2.1.alloc _).alloc _) rfl (news := [.int .i64 nu, .int .i64 (nu + 1)]) rfl (two_cells (by simp) (by simp)) (by simp [Value.oneCell']) (by unfold maxLen; omega) (by omega) (by simp; omega) ?_; intro v5 w5 hown5 hg5 hat5; obtain ⟨g5, cap5, hv5⟩ := own_form (n := xs.length + 1) hown5; subst hv5; have hsn := st_snoc (ys := [nu, nu + 1]) (below2 w _ _) HC.out.o HC.out.live HOV.out.2.1 HOV.out.2.2 HOV.out.1 hg5 hat5 hown5; have d0 := hsn.1.cell; have d1 := hsn.1.free; have d2 := hsn.1.lt; have HX := hid hsn.2; clear hown5 hg5 hat5 hsn)
  have HX5 := hid (show StO (w5.setCell ⟨O, 0, none⟩ (.slice (some ⟨g5, 0, none⟩) (xs.length + 1 + 1) cap5)) O B K (xs ++ prs [nu]) from HX.out.1)
  have HKW := hid HX.out.2.1
  have c4 : (w5.setCell ⟨O, 0, none⟩ (.slice (some ⟨g5, 0, none⟩) (xs.length + 1 + 1) cap5)).cell? ⟨w.heap.size, 4, none⟩ = some (.slice A kids.length cap) := by
   rw [World.cell?_of_block (a := ⟨w.heap.size, 4, none⟩) (HX.out.2.2 w.heap.size (Nat.le_refl _) (by simp; omega))]
   exact ((Blk.new w 24 #[.int .i64 3, .string x.name, .int .i64 cm, .int .i64 nu, .slice A kids.length cap]).alloc _).cell 4
  clear HX d0 d1 d2
  generalize (w5.setCell ⟨O, 0, none⟩ (.slice (some ⟨g5, 0, none⟩) (xs.length + 1 + 1) cap5)) = W at *
  have HF1 := hid (show (prs [nu]).length ≤ 2 from by simp [prs])
  generalize [nu] = fst at *
  have c4l := lt_of_cell c4
  clear v1 v2 x1 x2
  go_wp2
  go_loopw [28] (fun i wr => ∃ k : Nat, k ≤ kids.length ∧ i = .int .i64 k ∧ StO wr O B K (xs ++ prs (fst ++ testNs x.name (kids.take k))) ∧ Keeps K w wr) (fun i _ => kids.length - (intOf i).toNat)
  case atStart => exact ⟨0, Nat.zero_le _, rfl, by simpa [testNs] using HX5.out, HKW.out⟩
  case round =>
   clear c4 c4l
   obtain ⟨k, hk, rfl, hO, hkp⟩ := hrel
   by_cases hlt : k < kids.length
   ·obtain ⟨b, off, cs, rfl, hz, hcs, hfk⟩ := HS.out.at_ hlt
    have hkz : Keeps Z w wr := hkp.mono (fun b _ hb => HC.out.off b (Or.inl hb))
    have hfk' := FmR.keep hkz _ _ hfk
    have HF := hid hfk'
    obtain ⟨A', cap', rfl⟩ := FmR.form hfk
    have hCr := HC.out.keep hkp
    have hbnd : (xs ++ prs (fst ++ testNs x.name (kids.take k))).length + 2 * fsize kids[k] ≤ 4000000 := by
     have hsz := fsizes_take_succ hlt
     have ht3 := fsizes_take_le kids (k + 1)
     have h1 := testNs_len x.name (kids.take k)
     have h2 := HL.out
     have h3 := HF1.out
     rw [List.length_append, prs_app, List.length_append]
     omega
    have hle := fsize_lt hlt
    have hm2 := HL.out.1
    have hfs := HL.out.2.2
    clear hfk hfk'
    obtain ⟨c0, c1, c2, c3, c4⟩ := five_cells (fun j u hu => hkz.cell (p := ⟨b, off + k * 5 + j, none⟩) hz (hcs j u hu))
    clear hcs
    have cl := lt_of_cell c0
    have v1 := hCr.v.cell
    have v2 := hCr.v.lt
    have HCALL := hid (fun o => IH.out kids[k] (by omega) _ _ (wr.alloc o) (FmR.keep ((Keeps.refl Z wr).alloc o) _ _ HF.out) hbnd (HBD.out kids[k] (List.getElem_mem hlt)) (hCr.keep ((Keeps.refl _ _).alloc o)) (hO.alloc o))
    have HTK := hid (show xs ++ prs (fst ++ testNs x.name (kids.take (k + 1))) = xs ++ prs (fst ++ testNs x.name (kids.take k)) ++ prs (testN x.name kids[k]) from by rw [testNs_take _ _ _ hlt, ← List.append_assoc, prs_app (fst ++ _), List.append_assoc])
    have HKP := hid hkp
    clear hO hkp hCr hkz hbnd hle hm2 hfs
    generalize kids[k] = g at *
    go_wp2_with fail
    refine (HCALL.out _).mono ?_
    rintro e w1 ⟨rfl, hO1, hk1⟩
    have H9 := hid (And.intro hO1 (HKP.out.trans (((Keeps.refl _ _).alloc _).trans hk1)))
    clear hO1 hk1
    go_wp2
    go_roundw
    case rel => exact ⟨k + 1, by omega, by go_num, by rw [HTK.out]; exact H9.out.1, H9.out.2⟩
    case measure => simp [intOf]; omega
   ·obtain rfl : k = kids.length := by omega
    rw [List.take_length] at hO
    have HO9 := hid hO
    have HKP := hid hkp
    clear hO hkp
    go_wp2
    go_end0
    refine ⟨rfl, ?_, HKP.out⟩
    rw [HT.out]
    exact HO9.out
 ·rw [if_neg hT] at HT
  have HX5 := hid (show StO (w.alloc (.cells #[.int .i64 op, .string nm, .int .i64 cm, .int .i64 nu, .slice A kids.length cap] 24)) O B K (xs ++ prs []) from by
   have := StO.alloc (O := O) (B := B) (K := K) (xs := xs) (w := w) ⟨vo, hov, hown, hne⟩ (.cells #[.int .i64 op, .string nm, .int .i64 cm, .int .i64 nu, .slice A kids.length cap] 24)
   simpa [prs] using this)
  have HKW := hid (show Keeps K w (w.alloc (.cells #[.int .i64 op, .string nm, .int .i64 cm, .int .i64 nu, .slice A kids.length cap] 24)) from (Keeps.refl _ _).alloc _)
  have HF1 := hid (show (prs ([] : List Int)).length ≤ 2 from by simp [prs])
  have HNT := hid hT
  generalize ([] : List Int) = fst at *
  clear hov hown hne hnu hC o1 o2 hT
  go_enter Tryz.func91, Tryz.ntmps91
  by_cases h3 : op = 3
  ·have hn0 : nm ≠ x.name := fun h => HNT.out ⟨h3, h⟩
   have hn : (nm.toList == x.name.toList) = false := by rw [toList_beq]; simp [hn0]
   clear hn0
   subst h3
   go_upto_region 3 with fail
   have c4 : (w.alloc (.cells #[.int .i64 3, .string nm, .int .i64 cm, .int .i64 nu, .slice A kids.length cap] 24)).cell? ⟨w.heap.size, 4, none⟩ = some (.slice A kids.length cap) := (Blk.new w 24 #[.int .i64 3, .string nm, .int .i64 cm, .int .i64 nu, .slice A kids.length cap]).cell 4
   generalize (w.alloc (.cells #[.int .i64 3, .string nm, .int .i64 cm, .int .i64 nu, .slice A kids.length cap] 24)) = W at *
   have c4l := lt_of_cell c4
   clear v1 v2 x1 x2
   go_wp2
   go_loopw [28] (fun i wr => ∃ k : Nat, k ≤ kids.length ∧ i = .int .i64 k ∧ StO wr O B K (xs ++ prs (fst ++ testNs x.name (kids.take k))) ∧ Keeps K w wr) (fun i _ => kids.length - (intOf i).toNat)
   case atStart => exact ⟨0, Nat.zero_le _, rfl, by simpa [testNs] using HX5.out, HKW.out⟩
   case round =>
    clear c4 c4l
    obtain ⟨k, hk, rfl, hO, hkp⟩ := hrel
    by_cases hlt : k < kids.length
    ·obtain ⟨b, off, cs, rfl, hz, hcs, hfk⟩ := HS.out.at_ hlt
     have hkz : Keeps Z w wr := hkp.mono (fun b _ hb => HC.out.off b (Or.inl hb))
     have hfk' := FmR.keep hkz _ _ hfk
     have HF := hid hfk'
     obtain ⟨A', cap', rfl⟩ := FmR.form hfk
     have hCr := HC.out.keep hkp
     have hbnd : (xs ++ prs (fst ++ testNs x.name (kids.take k))).length + 2 * fsize kids[k] ≤ 4000000 := by
      have hsz := fsizes_take_succ hlt
      have ht3 := fsizes_take_le kids (k + 1)
      have h1 := testNs_len x.name (kids.take k)
      have h2 := HL.out
      have h3 := HF1.out
      rw [List.length_append, prs_app, List.length_append]
      omega
     have hle := fsize_lt hlt
     have hm2 := HL.out.1
     have hfs := HL.out.2.2
     clear hfk hfk'
     obtain ⟨c0, c1, c2, c3, c4⟩ := five_cells (fun j u hu => hkz.cell (p := ⟨b, off + k * 5 + j, none⟩) hz (hcs j u hu))
     clear hcs
     have cl := lt_of_cell c0
     have v1 := hCr.v.cell
     have v2 := hCr.v.lt
     have HCALL := hid (fun o => IH.out kids[k] (by omega) _ _ (wr.alloc o) (FmR.keep ((Keeps.refl Z wr).alloc o) _ _ HF.out) hbnd (HBD.out kids[k] (List.getElem_mem hlt)) (hCr.keep ((Keeps.refl _ _).alloc o)) (hO.alloc o))
     have HTK := hid (show xs ++ prs (fst ++ testNs x.name (kids.take (k + 1))) = xs ++ prs (fst ++ testNs x.name (kids.take k)) ++ prs (testN x.name kids[k]) from by rw [testNs_take _ _ _ hlt, ← List.append_assoc, prs_app (fst ++ _), List.append_assoc])
     have HKP := hid hkp
     clear hO hkp hCr hkz hbnd hle hm2 hfs
     generalize kids[k] = g at *
     go_wp2_with fail
     refine (HCALL.out _).mono ?_
     rintro e w1 ⟨rfl, hO1, hk1⟩
     have H9 := hid (And.intro hO1 (HKP.out.trans (((Keeps.refl _ _).alloc _).trans hk1)))
     clear hO1 hk1
     go_wp2
     go_roundw
     case rel => exact ⟨k + 1, by omega, by go_num, by rw [HTK.out]; exact H9.out.1, H9.out.2⟩
     case measure => simp [intOf]; omega
    ·obtain rfl : k = kids.length := by omega
     rw [List.take_length] at hO
     have HO9 := hid hO
     have HKP := hid hkp
     clear hO hkp
     go_wp2
     go_end0
     refine ⟨rfl, ?_, HKP.out⟩
     rw [HT.out]
     exact HO9.out
  ·go_upto_region 3 with fail
   have c4 : (w.alloc (.cells #[.int .i64 op, .string nm, .int .i64 cm, .int .i64 nu, .slice A kids.length cap] 24)).cell? ⟨w.heap.size, 4, none⟩ = some (.slice A kids.length cap) := (Blk.new w 24 #[.int .i64 op, .string nm, .int .i64 cm, .int .i64 nu, .slice A kids.length cap]).cell 4
   generalize (w.alloc (.cells #[.int .i64 op, .string nm, .int .i64 cm, .int .i64 nu, .slice A kids.length cap] 24)) = W at *
   have c4l := lt_of_cell c4
   clear v1 v2 x1 x2
   go_wp2
   go_loopw [28] (fun i wr => ∃ k : Nat, k ≤ kids.length ∧ i = .int .i64 k ∧ StO wr O B K (xs ++ prs (fst ++ testNs x.name (kids.take k))) ∧ Keeps K w wr) (fun i _ => kids.length - (intOf i).toNat)
   case atStart => exact ⟨0, Nat.zero_le _, rfl, by simpa [testNs] using HX5.out, HKW.out⟩
   case round =>
    clear c4 c4l
    obtain ⟨k, hk, rfl, hO, hkp⟩ := hrel
    by_cases hlt : k < kids.length
    ·obtain ⟨b, off, cs, rfl, hz, hcs, hfk⟩ := HS.out.at_ hlt
     have hkz : Keeps Z w wr := hkp.mono (fun b _ hb => HC.out.off b (Or.inl hb))
     have hfk' := FmR.keep hkz _ _ hfk
     have HF := hid hfk'
     obtain ⟨A', cap', rfl⟩ := FmR.form hfk
     have hCr := HC.out.keep hkp
     have hbnd : (xs ++ prs (fst ++ testNs x.name (kids.take k))).length + 2 * fsize kids[k] ≤ 4000000 := by
      have hsz := fsizes_take_succ hlt
      have ht3 := fsizes_take_le kids (k + 1)
      have h1 := testNs_len x.name (kids.take k)
      have h2 := HL.out
      have h3 := HF1.out
      rw [List.length_append, prs_app, List.length_append]
      omega
     have hle := fsize_lt hlt
     have hm2 := HL.out.1
     have hfs := HL.out.2.2
     clear hfk hfk'
     obtain ⟨c0, c1, c2, c3, c4⟩ := five_cells (fun j u hu => hkz.cell (p := ⟨b, off + k * 5 + j, none⟩) hz (hcs j u hu))
     clear hcs
     have cl := lt_of_cell c0
     have v1 := hCr.v.cell
     have v2 := hCr.v.lt
     have HCALL := hid (fun o => IH.out kids[k] (by omega) _ _ (wr.alloc o) (FmR.keep ((Keeps.refl Z wr).alloc o) _ _ HF.out) hbnd (HBD.out kids[k] (List.getElem_mem hlt)) (hCr.keep ((Keeps.refl _ _).alloc o)) (hO.alloc o))
     have HTK := hid (show xs ++ prs (fst ++ testNs x.name (kids.take (k + 1))) = xs ++ prs (fst ++ testNs x.name (kids.take k)) ++ prs (testN x.name kids[k]) from by rw [testNs_take _ _ _ hlt, ← List.append_assoc, prs_app (fst ++ _), List.append_assoc])
     have HKP := hid hkp
     clear hO hkp hCr hkz hbnd hle hm2 hfs
     generalize kids[k] = g at *
     go_wp2_with fail
     refine (HCALL.out _).mono ?_
     rintro e w1 ⟨rfl, hO1, hk1⟩
     have H9 := hid (And.intro hO1 (HKP.out.trans (((Keeps.refl _ _).alloc _).trans hk1)))
     clear hO1 hk1
     go_wp2
     go_roundw
     case rel => exact ⟨k + 1, by omega, by go_num, by rw [HTK.out]; exact H9.out.1, H9.out.2⟩
     case measure => simp [intOf]; omega
    ·obtain rfl : k = kids.length := by omega
     rw [List.take_length] at hO
     have HO9 := hid hO
     have HKP := hid hkp
     clear hO hkp
     go_wp2
     go_end0
     refine ⟨rfl, ?_, HKP.out⟩
     rw [HT.out]
     exact HO9.out
end Go.Proofs.YtcigjmlileckhaaGreatDoor
