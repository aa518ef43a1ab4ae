/- Walk of diagram.Build. -/
import Derived.Test.YtcigjmlileckhaaGreatDoorM32
/- Walk of diagram.Build. -/
namespace Go.Proofs.YtcigjmlileckhaaGreatDoor
open Go.RowKit Go.Shelf
theorem MapIs.len {P : Program} {κ : Type} {enc : κ → Value} {w : World} {b : Nat} {kv : List (κ × Value)} {t k e : TypeId} (h : MapIs enc w b kv) (ht : P.underlying t = some (.map k e)) (ty : TypeId) : (Builtin.len_ #[t] ty #[.map (some b)]).run P w = .ok (.int .i64 (kv.length : Nat)) w := by
 obtain ⟨es, clock, hb, hm⟩ := h
 have e1 : es.size = kv.length := by have := congrArg List.length hm; simpa using this
 rw [← e1]
 simp [Builtin.len_, run_underlying ht, MapKept.run_getObj_map hb, goInt, Result.andThen]
theorem kvSet_keys (x : ByteArray) (v : Value) : ∀ l : List (ByteArray × Value), (kvSet l x v).map (·.1) = if (l.map (·.1)).any (fun k => decide (k = x)) = true then l.map (·.1) else l.map (·.1) ++ [x]
 | [] => by simp [kvSet]
 | p :: r => by
  have ih := kvSet_keys x v r
  unfold kvSet
  rw [List.map_cons, List.any_cons]
  by_cases h : x = p.1
  ·rw [if_pos h, if_pos (by simp [h])]; rfl
  ·rw [if_neg h, List.map_cons, ih, decide_eq_false (show ¬ p.1 = x from fun e => h e.symm), Bool.false_or]
   split <;> rfl
theorem kvNames_keys : ∀ (l : List ByteArray) (kv : List (ByteArray × Value)), (kvNames kv l).map (·.1) = l.foldl (fun ks n => if ks.any (fun k => decide (k = n)) = true then ks else ks ++ [n]) (kv.map (·.1))
 | [], _ => rfl
 | n :: l, kv => by
  unfold kvNames
  rw [List.foldl_cons, List.foldl_cons, ← kvSet_keys n (.bool true) kv]
  exact kvNames_keys l _
theorem kvNames_length (f : Fm) : (kvNames [] (namesF f)).length = testedS f := by
 have := congrArg List.length (kvNames_keys (namesF f) [])
 rw [List.length_map] at this
 rw [this]; rfl
def bMk : Obj := .cells #[.slice none 0 0, .map none] 69
def bMv (n : Nat) : Obj := .cells #[.pointer (some ⟨n, 0, none⟩)] 64
def bNv (n : Nat) : Obj := .cells #[.map (some (n + 1 + 1))] 65
def bFv : Obj := .cells #[.bool false] 4
def GV.of (n d : Nat) : GV := ⟨n + 1, n + 1 + 1 + 1 + 1, d, n + 1 + 1 + 1, n + 1 + 1 + 1 + 1 + 1, n, n + 1 + 1⟩
def bGv (n d : Nat) : Obj := .cells #[(GV.of n d).fn] 70
def buildW (w : World) (d : Nat) : World := (((((w.alloc bMk).alloc (bMv w.heap.size)).alloc (.map #[] 0)).alloc (bNv w.heap.size)).alloc bFv).alloc (bGv w.heap.size d)
theorem buildW_size (w : World) (d : Nat) : (buildW w d).heap.size = w.heap.size + 6 := by unfold buildW; simp
theorem buildW_below (w : World) (d : Nat) : Below w.heap.size w (buildW w d) :=
 (((((below1 w _).alloc (by simp) _).alloc (by simp; omega) _).alloc (by simp; omega) _).alloc (by simp; omega) _).alloc (by simp; omega) _
theorem buildW_gr {w : World} {d : Nat} {vd : Value} (hd : One w d vd) : GrW (GV.of w.heap.size d) vd (buildW w d) ⟨[], [], false⟩ (fun b => b = w.heap.size) (fun _ => False) := by
 have hdl := hd.lt
 have hb := buildW_below w d
 refine ⟨⟨_, ((((Blk.new' (w.alloc bMk) 64 #[.pointer (some ⟨w.heap.size, 0, none⟩)] (n := w.heap.size + 1) (by simp)).alloc _).alloc _).alloc _).alloc _⟩, hd.below hb hdl,
  ⟨_, (((Blk.new' (((w.alloc bMk).alloc (bMv w.heap.size)).alloc (.map #[] 0)) 65 #[.map (some (w.heap.size + 1 + 1))] (n := w.heap.size + 1 + 1 + 1) (by simp)).alloc _).alloc _)⟩,
  ⟨_, Blk.new' (((((w.alloc bMk).alloc (bMv w.heap.size)).alloc (.map #[] 0)).alloc (bNv w.heap.size)).alloc bFv) _ #[(GV.of w.heap.size d).fn] (n := w.heap.size + 1 + 1 + 1 + 1 + 1) (by simp)⟩,
  ⟨_, (Blk.new' ((((w.alloc bMk).alloc (bMv w.heap.size)).alloc (.map #[] 0)).alloc (bNv w.heap.size)) 4 #[.bool false] (n := w.heap.size + 1 + 1 + 1 + 1) (by simp)).alloc _⟩, ?_, ?_, ?_, ?_, ?_, ?_, ?_, ?_⟩
 ·exact (MkS.new w).below (w' := buildW w d) (((((below1 (w.alloc bMk) _).alloc (by simp) _).alloc (by simp) _).alloc (by simp) _).alloc (by simp) _)
 ·have hm := ((MapIs.made ((w.alloc bMk).alloc (bMv w.heap.size)) encS).alloc (bNv w.heap.size)).alloc bFv |>.alloc (bGv w.heap.size d)
  have e : ((w.alloc bMk).alloc (bMv w.heap.size)).heap.size = w.heap.size + 1 + 1 := by simp
  rw [e] at hm
  exact hm
 ·intro b hb
  refine ⟨fun e => ?_, ?_, ?_⟩
  ·subst e; rcases hb with hb | hb | hb | hb <;> (unfold GV.of at hb; simp only at hb; omega)
  ·show b ≠ w.heap.size + 1 + 1
   rcases hb with hb | hb | hb | hb <;> (unfold GV.of at hb; simp only at hb; omega)
  ·show b ≠ w.heap.size + 1 + 1 + 1 + 1
   rcases hb with hb | hb | hb | hb <;> (unfold GV.of at hb; simp only at hb; omega)
 ·show ¬ (w.heap.size + 1 + 1 + 1 + 1 = w.heap.size); omega
 ·show ¬ (w.heap.size + 1 + 1 = w.heap.size); omega
 ·show w.heap.size + 1 + 1 + 1 + 1 ≠ w.heap.size + 1 + 1; omega
 ·exact fun h => h
 ·exact fun h => h
theorem nil_nodes (Z : Zone) (w : World) : Nodes Z w (.slice none 0 0) [] := ⟨none, 0, rfl, Nat.le_refl _, by omega, by simp, trivial⟩
set_option maxRecDepth 100000 in
set_option maxHeartbeats 8000000 in
theorem build_any (Zf Zd : Zone) (vd : Value) (f : Fm) (cs : List Value) (ds : List FactD) (w : World) (hf : FmR Zf w f cs) (hzf : ∀ b, Zf b → b < w.heap.size) (hd : Facts Zd w vd ds) (hzd : ∀ b, Zd b → b < w.heap.size)
  (hsz : fsize f ≤ 4000000) (htab : TabB w.heap.size w) :
  Calls Tryz.prog 12 #[.agg cs.toArray, .agg #[vd]] w (FromPost (fun _ => False) (buildS ds f) w) := by
 have eg := Tryz.egBuild1
 have hmm := @run_makeMap Tryz.prog
 have HF := hid hf
 have HD := hid hd
 obtain ⟨A, cap, rfl⟩ := FmR.form hf
 obtain ⟨D, dcap, rfl, -, -, -⟩ := hd.open_
 have HU := hid (show buildS ds f = (if validDom ds = false ∨ checkS ds f ≠ 0 then ([], 1) else if 24 < testedS f then ([], 2) else
  if (growS ds 0 (givenS ⟨#[]⟩ 0 f) ⟨[], [], false⟩).2.full = true then ([], 2) else if 4000 < (canonS ds (growS ds 0 (givenS ⟨#[]⟩ 0 f) ⟨[], [], false⟩).2.all (growS ds 0 (givenS ⟨#[]⟩ 0 f) ⟨[], [], false⟩).1).length then ([], 2)
  else (canonS ds (growS ds 0 (givenS ⟨#[]⟩ 0 f) ⟨[], [], false⟩).2.all (growS ds 0 (givenS ⟨#[]⟩ 0 f) ⟨[], [], false⟩).1, 0)) from rfl)
 have hbf := ((Blk.new w 24 #[.int .i64 f.op, .string f.name, .int .i64 f.cmp, .int .i64 f.num, .slice A f.kids.length cap]).alloc (.cells #[.slice D ds.length dcap] 27)).alloc (.cells #[.slice none 0 0] 34)
 have hbd := (Blk.new' (w.alloc (.cells #[.int .i64 f.op, .string f.name, .int .i64 f.cmp, .int .i64 f.num, .slice A f.kids.length cap] 24)) 27 #[.slice D ds.length dcap] (n := w.heap.size + 1) (by simp)).alloc (.cells #[.slice none 0 0] 34)
 have hbr := Blk.new' ((w.alloc (.cells #[.int .i64 f.op, .string f.name, .int .i64 f.cmp, .int .i64 f.num, .slice A f.kids.length cap] 24)).alloc (.cells #[.slice D ds.length dcap] 27)) 34 #[.slice none 0 0] (n := w.heap.size + 1 + 1) (by simp)
 have hb0 := ((below1 w (.cells #[.int .i64 f.op, .string f.name, .int .i64 f.cmp, .int .i64 f.num, .slice A f.kids.length cap] 24)).alloc (by simp) (.cells #[.slice D ds.length dcap] 27)).alloc (by simp; omega) (.cells #[.slice none 0 0] 34)
 have HV := hid (factValid_any Zd (.slice D ds.length dcap) ds _ (hd.keep (.of_below hb0)))
 have HB := hid (And.intro hbf (And.intro hbd (And.intro hbr hb0)))
 clear hbf hbd hbr hb0 hf hd
 go_enter Tryz.func12, Tryz.ntmps12
 go_wp2_with fail
 refine HV.out.mono ?_
 rintro e w1 ⟨rfl, hb1⟩
 have hbf := HB.out.1.below hb1 HB.out.1.lt
 have hbd := HB.out.2.1.below hb1 HB.out.2.1.lt
 have hbr := HB.out.2.2.1.below hb1 HB.out.2.2.1.lt
 have hbw := HB.out.2.2.2.trans (hb1.mono HB.out.2.2.2.size)
 clear hb1 HB HV
 by_cases hv : validDom ds = true
 ·have HVD := hid hv
  rw [hv]
  have HC := hid (check_any (fun b => (Zf b ∨ Zd b)) (.slice D ds.length dcap) ds f _ w1 (FmR.mono (fun b hb => Or.inl hb) _ _ (FmR.keep (.of_below hbw) _ _ HF.out)) ((HD.out.keep (.of_below hbw)).mono fun b hb => Or.inr hb) (by omega) (fun b hb => by
   have := hbw.size
   rcases hb with hb | hb
   ·have := hzf b hb; omega
   ·have := hzd b hb; omega))
  have f0 : w1.cell? ⟨w.heap.size, 0, none⟩ = some (.int .i64 f.op) := hbf.cell 0
  have f1 : w1.cell? ⟨w.heap.size, 1, none⟩ = some (.string f.name) := hbf.cell 1
  have f2 : w1.cell? ⟨w.heap.size, 2, none⟩ = some (.int .i64 f.cmp) := hbf.cell 2
  have f3 : w1.cell? ⟨w.heap.size, 3, none⟩ = some (.int .i64 f.num) := hbf.cell 3
  have f4 : w1.cell? ⟨w.heap.size, 4, none⟩ = some (.slice A f.kids.length cap) := hbf.cell 4
  have fl := hbf.lt
  have d0 : w1.cell? ⟨w.heap.size + 1, 0, none⟩ = some (.slice D ds.length dcap) := hbd.cell 0
  have dl := hbd.lt
  have HW1 := hid (And.intro hbf (And.intro hbd (And.intro hbr hbw)))
  clear hv hbf hbd hbr hbw
  go_wp2_with fail
  refine HC.out.mono ?_
  rintro e w2 ⟨rfl, hb2⟩
  have hbf := HW1.out.1.below hb2 HW1.out.1.lt
  have hbd := HW1.out.2.1.below hb2 HW1.out.2.1.lt
  have hbr := HW1.out.2.2.1.below hb2 HW1.out.2.2.1.lt
  have hbw := HW1.out.2.2.2.trans (hb2.mono HW1.out.2.2.2.size)
  clear f0 f1 f2 f3 f4 fl d0 dl hb2 HW1 HC
  by_cases hck : checkS ds f = 0
  ·have HCK := hid hck
   have e1 : (checkS ds f != (0 : Int)) = false := by simp [hck]
   have HU2 := hid (HU.out.trans (if_neg (by rintro (h | h); rw [HVD.out] at h; cases h; exact h hck)))
   have HTT := hid (fun (W : World) hW hm => tested_any w2.heap.size (fun b => Zf b ∧ b < w.heap.size) (fun h => by have := h.2; have := hbw.size; omega) (fsize f) f (Nat.le_refl _) [.int .i64 f.op, .string f.name, .int .i64 f.cmp, .int .i64 f.num, .slice A f.kids.length cap] [] W hW hsz hm)
   have hfm2 := FmR.keep (.of_below hbw) _ _ (FmR.live _ _ HF.out)
   have HM2 := hid (And.intro (FmR.keep ((Keeps.refl _ _).alloc (.map #[] 0)) _ _ hfm2) (MapIs.made w2 encS))
   have f0 : w2.cell? ⟨w.heap.size, 0, none⟩ = some (.int .i64 f.op) := hbf.cell 0
   have f1 : w2.cell? ⟨w.heap.size, 1, none⟩ = some (.string f.name) := hbf.cell 1
   have f2 : w2.cell? ⟨w.heap.size, 2, none⟩ = some (.int .i64 f.cmp) := hbf.cell 2
   have f3 : w2.cell? ⟨w.heap.size, 3, none⟩ = some (.int .i64 f.num) := hbf.cell 3
   have f4 : w2.cell? ⟨w.heap.size, 4, none⟩ = some (.slice A f.kids.length cap) := hbf.cell 4
   have fl := hbf.lt
   have HW2 := hid (And.intro hbf (And.intro hbd (And.intro hbr hbw)))
   clear hck hbf hbd hbr hbw hfm2 HU
   go_wp2_with fail
   refine (HTT.out _ HM2.out.1 HM2.out.2).mono ?_
   rintro e w3 ⟨rfl, hm3, hk3⟩
   have hl3 := fun ty => hm3.len (P := Tryz.prog) (t := 62) (k := 9) (e := 4) Tryz.underlying62 ty
   rw [kvNames_length] at hl3
   have hwf := HW2.out.1.lt
   have hwd := HW2.out.2.1.lt
   have hwr := HW2.out.2.2.1.lt
   have hbf := (HW2.out.1.alloc (.map #[] 0)).keep hk3 (by show w.heap.size ≠ _; omega)
   have hbd := (HW2.out.2.1.alloc (.map #[] 0)).keep hk3 (by show w.heap.size + 1 ≠ _; omega)
   have hbr := (HW2.out.2.2.1.alloc (.map #[] 0)).keep hk3 (by show w.heap.size + 1 + 1 ≠ _; omega)
   have hbw : Below w.heap.size w w3 := below_keeps_ne (HW2.out.2.2.2.alloc HW2.out.2.2.2.size _) hk3 HW2.out.2.2.2.size (by have := HW2.out.2.2.2.size; simp; omega)
   clear f0 f1 f2 f3 f4 fl hm3 hk3 HW2 HM2 HTT
   by_cases ht : 24 < testedS f
   ·have HR := hid (HU2.out.trans (if_pos ht))
    have e2 : decide ((24 : Int) < (testedS f : Int)) = true := by simp; omega
    have e2' : decide (24 < testedS f) = true := by simp; omega
    have r0 := hbr.cell 0
    have rf := hbr.frozen 0
    have rl := hbr.lt
    have HW := hid (And.intro hbr hbw)
    clear ht hbf hbd hbr hbw HU2
    go_wp2
    have r1 := (HW.out.1.set_ 0 (.slice none 0 0)).cell 0
    refine bodyPost_ret (v := .tuple #[.agg #[.slice none 0 0], .int .i64 2]) (by simp [results, Tryz.results12, go_sem, r1]) rfl ?_
    rw [HR.out]
    exact ⟨_, rfl, nil_nodes _ _, HW.out.2.setCell (p := ⟨w.heap.size + 1 + 1, 0, none⟩) (by show w.heap.size ≤ w.heap.size + 1 + 1; omega) _⟩
   ·have HU3 := hid (HU2.out.trans (if_neg ht))
    have e2 : decide ((24 : Int) < (testedS f : Int)) = false := by simp; omega
    have e2' : decide (24 < testedS f) = false := by simp; omega
    have HW3 := hid (And.intro hbf (And.intro hbd (And.intro hbr hbw)))
    have hwf := hbf.lt
    have hwd := hbd.lt
    have hwr := hbr.lt
    clear ht hbf hbd hbr hbw HU2
    go_wp2
    change Code.wp Tryz.prog _ _ _ (buildW w3 (w.heap.size + 1))
    have hsz9 := buildW_size w3 (w.heap.size + 1)
    have hb9 := buildW_below w3 (w.heap.size + 1)
    have hg9 := buildW_gr (vd := .slice D ds.length dcap) ⟨_, HW3.out.2.1⟩
    generalize buildW w3 (w.heap.size + 1) = W9 at *
    have hbf9 := HW3.out.1.below hb9 hwf
    have hbr9 := HW3.out.2.2.1.below hb9 hwr
    have hw39 := HW3.out.2.2.2.size
    have hbw9 := HW3.out.2.2.2.trans (hb9.mono hw39)
    have HG9 := hid (And.intro hg9 (And.intro hbr9 hbw9))
    have HCELL := hid (fun (W : World) (hW : Keeps (fun b => b = w3.heap.size + 1 + 1 + 1 + 1 + 1 ∨ b = w.heap.size) W9 W) => (show W.cell? ⟨w3.heap.size + 1 + 1 + 1 + 1 + 1, 0, none⟩ = some (.func (.func 39) #[] #[.pointer (some ⟨w3.heap.size + 1, 0, none⟩), .pointer (some ⟨w3.heap.size + 1 + 1 + 1 + 1, 0, none⟩), .pointer (some ⟨w.heap.size + 1, 0, none⟩), .pointer (some ⟨w3.heap.size + 1 + 1 + 1, 0, none⟩), .pointer (some ⟨w3.heap.size + 1 + 1 + 1 + 1 + 1, 0, none⟩)]) ∧
     W.cell? ⟨w.heap.size, 0, none⟩ = some (.int .i64 f.op) ∧ W.cell? ⟨w.heap.size, 1, none⟩ = some (.string f.name) ∧ W.cell? ⟨w.heap.size, 2, none⟩ = some (.int .i64 f.cmp) ∧ W.cell? ⟨w.heap.size, 3, none⟩ = some (.int .i64 f.num) ∧ W.cell? ⟨w.heap.size, 4, none⟩ = some (.slice A f.kids.length cap) from by
      have hbx := hbf9.keep hW (Or.inr rfl)
      exact ⟨(hg9.gv.keep hW (Or.inl rfl)).cell, hbx.cell 0, hbx.cell 1, hbx.cell 2, hbx.cell 3, hbx.cell 4⟩))
    clear hg9 hbf9 hbr9 hbw9 hb9 hl3
    refine wp_region_S 4 (fun W => Keeps (fun b => b = w3.heap.size + 1 + 1 + 1 + 1 + 1 ∨ b = w.heap.size) W9 W) (by kernel_rfl) ?_
    have hS : (fun W => Keeps (fun b => b = w3.heap.size + 1 + 1 + 1 + 1 + 1 ∨ b = w.heap.size) W9 W) W9.drew := (Keeps.refl _ _).drew
    (refine wpAnyS_take (i := 0) (v := ?_) rfl (by kernel_rfl) (by kernel_rfl) (fun _ _ _ h => h) (Or.inl ⟨by rfl, ?_⟩) hS ?_; rotate_left; (intro w hSw; have hkw := hSw; obtain ⟨h0, h1, h2, h3, h4, h5⟩ := HCELL.out _ hkw; go_simp; (try with_reducible rfl)); ((try simp only [Act.put]); (try simp only [nrA]); (try simp only [nrB]); (try simp only [nrC])))
    (refine wpAnyS_take (i := 1) (v := ?_) rfl (by kernel_rfl) (by kernel_rfl) (fun _ _ _ h => h) (Or.inl ⟨by rfl, ?_⟩) hS ?_; rotate_left; (intro w hSw; have hkw := hSw; obtain ⟨h0, h1, h2, h3, h4, h5⟩ := HCELL.out _ hkw; go_simp; (try with_reducible rfl)); ((try simp only [Act.put]); (try simp only [nrA]); (try simp only [nrB]); (try simp only [nrC])))
    refine wpAnyS_one (i := 2) (by kernel_rfl) rfl rfl (fun K hK => ?_)
    go_wp2_with fail
    have hcks := checkS_zero HCK.out
    have hfs : fsize f ≤ 200 := by
     have h1 := HCK.out
     unfold checkS at h1
     split at h1
     ·omega
     ·rename_i hl; unfold isLarge at hl; simp at hl; omega
    have hbw9 := HG9.out.2.2
    have hk9 : ∀ Z0, Keeps Z0 W9 W9.drew := fun Z0 => (Keeps.refl _ _).drew
    refine (given_any ⟨#[]⟩ 0 ds (fsize f) f (Nat.le_refl _) (by omega) (fun b => Zf b ∧ b < w.heap.size) _ W9.drew (FmR.keep ((Keeps.of_below_lt hbw9 (fun b _ hb => hb.2)).trans (hk9 _)) _ _ (FmR.live _ _ HF.out)) hcks.2).mono ?_
    rintro e w10 ⟨cs', rfl, hf10, hb10⟩
    have hb10' : Below W9.heap.size W9 w10 := ((Below.refl W9.heap.size W9).drew).trans hb10
    have hs10 := hb10'.size
    have hbw10 : Below w.heap.size w w10 := hbw9.trans (hb10'.mono hbw9.size)
    have HIN := hid (show GrIn (GV.of w3.heap.size (w.heap.size + 1)) ds (fun b => Zd b ∧ b < w.heap.size) D dcap w.heap.size w10 ⟨[], [], false⟩ (fun b => b = w3.heap.size) (fun _ => False) (fun b => ((Zf b ∧ b < w.heap.size) ∨ W9.heap.size ≤ b) ∧ b < w10.heap.size) (givenS ⟨#[]⟩ 0 f) cs' from by
     have hkk : ∀ b, b < w.heap.size ∨ W9.heap.size ≤ b → (GV.of w3.heap.size (w.heap.size + 1)).kept (fun b => b = w3.heap.size) b := fun b hb => ⟨fun e => by subst e; omega, fun e => by unfold GV.of at e; simp only at e; omega, fun e => by unfold GV.of at e; simp only at e; omega⟩
     refine ⟨HG9.out.1.below hb10', FmR.live _ _ hf10, fun b hb => ⟨hkk b (by rcases hb.1 with h | h; exact Or.inl h.2; exact Or.inr h), hb.2⟩,
      (HD.out.keep (.of_below hbw10)).mono (fun b hb => ⟨hb, hzd b hb⟩), fun b hb => ⟨hkk b (Or.inl hb.2), by have := hb.2; have := hbw10.size; omega⟩, htab.on hbw10, ⟨hbw10.size, fun b hb => by subst hb; exact hw39, ?_, ?_⟩,
      ok_given f hcks.2, Nat.le_trans (size_given f) hfs, WSt.new, by simp [inn], HVD.out⟩
     ·show w.heap.size ≤ w3.heap.size + 1 + 1; omega
     ·show w.heap.size ≤ w3.heap.size + 1 + 1 + 1 + 1; omega)
    have HGROW := hid (grow_any ds 0 (givenS ⟨#[]⟩ 0 f) cs' w10 ⟨[], [], false⟩ (fun b => b = w3.heap.size) (fun _ => False) _ (by simp) (Nat.zero_le _) HIN.out)
    have hS10 : Keeps (fun b => b = w3.heap.size + 1 + 1 + 1 + 1 + 1 ∨ b = w.heap.size) W9 w10 := .of_below hb10'
    have HW10 := hid (And.intro hbw10 (HG9.out.2.1.below hb10' (by omega)))
    have HINV := hid (And.intro hcks.2 (show GInv ds ⟨[], [], false⟩ from ⟨Good.nil ds, fun p hp => absurd hp (by simp)⟩))
    refine hK _ _ (Or.inr hS10) ?_
    clear hK K hb10 hf10 hb10' hbw10 hbw9 hk9 hcks hfs
    ((try simp only [Act.put]); (try simp only [nrA]); (try simp only [nrB]); (try simp only [nrC]))
    refine wpAnyS_one (i := 3) (by kernel_rfl) rfl rfl (fun K hK => ?_)
    go_wp2_with fail
    refine HGROW.out.mono ?_
    intro e w11 hp11
    have hS11 : Keeps (fun b => b = w3.heap.size + 1 + 1 + 1 + 1 + 1 ∨ b = w.heap.size) W9 w11 := hS10.trans (hp11.2.2.mono fun b _ hb => by
     rcases hb with rfl | rfl
     ·exact ⟨by omega, by unfold GV.of; simp only; omega, by unfold GV.of; simp only; omega⟩
     ·exact ⟨by omega, by unfold GV.of; simp only; omega, by unfold GV.of; simp only; omega⟩)
    have HP11 := hid hp11
    obtain rfl := hp11.1
    refine hK _ _ (Or.inr hS11) ?_
    clear hK K hp11 HGROW
    ((try simp only [Act.put]); (try simp only [nrA]); (try simp only [nrB]); (try simp only [nrC]))
    refine wpAnyS_one (i := 4) (by kernel_rfl) rfl rfl (fun K hK => ?_)
    go_wp2_with fail
    refine hK _ _ (Or.inl rfl) ?_
    clear hK K
    ((try simp only [Act.put]); (try simp only [nrA]); (try simp only [nrB]); (try simp only [nrC]))
    refine wpAnyS_done (by kernel_rfl) ?_ _
    have hgs := fun h => grow_spec HVD.out ds 0 (givenS ⟨#[]⟩ 0 f) ⟨[], [], false⟩ (by simp) (Nat.zero_le _) (ok_given f HINV.out.1) (red_given f HINV.out.1) (fun n hn => ok_names _ (ok_given f HINV.out.1) n hn) HINV.out.2 h
    have hwl := grow_len (rest := ds) (i := 0) (f := givenS ⟨#[]⟩ 0 f) WSt.new (N := 4000 + ds.length) (by simp [inn]) (Nat.le_refl _)
    have hdl := validDom_len HVD.out
    generalize growS ds 0 (givenS ⟨#[]⟩ 0 f) ⟨[], [], false⟩ = r at *
    have HGS := hid hgs
    obtain ⟨-, ⟨F', Z', hg11, hF', hZ'⟩, hk11⟩ := HP11.out
    have hbr11 : Blk w11 (w.heap.size + 1 + 1) 34 #[.slice none 0 0] := HW10.out.2.keep hk11 ⟨by omega, by unfold GV.of; simp only; omega, by unfold GV.of; simp only; omega⟩
    have hbw11 : Below w.heap.size w w11 := HW10.out.1.trans ⟨hk11.os, hk11.tape, hk11.output, hk11.size, fun b hb => hk11.block b (by have := HW10.out.1.size; omega) ⟨by omega, by unfold GV.of; simp only; omega, by unfold GV.of; simp only; omega⟩⟩
    have v0 : w11.cell? ⟨w3.heap.size + 1 + 1 + 1 + 1, 0, none⟩ = some (.bool r.2.full) := hg11.fv.cell
    have v0l := hg11.fv.lt
    have m0 : w11.cell? ⟨w3.heap.size + 1, 0, none⟩ = some (.pointer (some ⟨w3.heap.size, 0, none⟩)) := hg11.mv.cell
    have m0l := hg11.mv.lt
    unfold GV.of at v0l m0l
    simp only at v0l m0l
    have HMK := hid (And.intro hg11.mkr (fun b hb => (by rcases hZ' b hb with h | h; exact h.elim; have := HW10.out.1.size; omega : w.heap.size + 1 + 1 < b ∧ w.heap.size ≤ b)))
    have HW11 := hid (And.intro hbr11 hbw11)
    have r0 := hbr11.cell 0
    have rf := hbr11.frozen 0
    have rl := hbr11.lt
    clear hg11 hF' hZ' hk11 hbr11 hbw11 hS hS10 hS11 HP11 hgs
    cases hfull : r.2.full with
    | true =>
     rw [hfull] at v0
     have HR := hid (HU3.out.trans (if_pos hfull))
     clear hfull HU3
     have HW := HW11
     go_wp2
     have r1 := (HW.out.1.set_ 0 (.slice none 0 0)).cell 0
     refine bodyPost_ret (v := .tuple #[.agg #[.slice none 0 0], .int .i64 2]) (by simp [results, Tryz.results12, go_sem, r1]) rfl ?_
     rw [HR.out]
     exact ⟨_, rfl, nil_nodes _ _, HW.out.2.setCell (p := ⟨w.heap.size + 1 + 1, 0, none⟩) (by show w.heap.size ≤ w.heap.size + 1 + 1; omega) _⟩
    | false =>
     rw [hfull] at v0
     have HU4 := hid (HU3.out.trans (if_neg (by rw [hfull]; simp)))
     obtain ⟨hgi, hfor⟩ := HGS.out hfull
     have hcl : (canonS ds r.2.all r.1).length = (orderS ds r.2.all r.1).length := by unfold canonS; rw [List.length_map]
     have HFR := hid (from_any ds r.2.all hgi.good (by omega) w3.heap.size F' Z' r.1 w11 hfor.rng HMK.out.1)
     have HEQ := hid (show buildS ds f = fromS ds r.2.all r.1 from by
      rw [HU4.out]; unfold fromS; rw [hcl])
     clear hfull HU3 HU4 hgi hfor hcl
     go_wp2_with fail
     refine HFR.out.mono ?_
     rintro e w12 ⟨v12, rfl, hn12, hb12⟩
     have hbr12 := HW11.out.1.below hb12 HW11.out.1.lt
     have hbw12 := HW11.out.2.trans (hb12.mono HW11.out.2.size)
     clear r0 rf rl v0 v0l m0 m0l
     have r0 := hbr12.cell 0
     have rf := hbr12.frozen 0
     have rl := hbr12.lt
     have hlive : Nodes (fun b => w.heap.size ≤ b ∧ b ≠ w.heap.size + 1 + 1) w12 v12 (fromS ds r.2.all r.1).1 := hn12.mono fun b hb => by
      have h11 := HW11.out.1.lt
      rcases hb with hb | hb
      ·have := HMK.out.2 b hb; omega
      ·omega
     obtain ⟨A12, cap12, rfl, -⟩ := hn12
     have HN := hid (And.intro hlive (And.intro hbr12 hbw12))
     clear hlive hbr12 hbw12 hb12
     go_wp2
     have r1 := (HN.out.2.1.set_ 0 (.slice A12 (fromS ds r.2.all r.1).1.length cap12)).cell 0
     refine bodyPost_ret (v := .tuple #[.agg #[.slice A12 (fromS ds r.2.all r.1).1.length cap12], .int .i64 (fromS ds r.2.all r.1).2]) (by simp [results, Tryz.results12, go_sem, r1]) rfl ?_
     rw [HEQ.out]
     exact ⟨_, rfl, (HN.out.1.keep ((Keeps.refl _ _).setCell (fun _ h => h.2 rfl) _)).mono (fun b hb => Or.inr hb.1), HN.out.2.2.setCell (p := ⟨w.heap.size + 1 + 1, 0, none⟩) (by show w.heap.size ≤ w.heap.size + 1 + 1; omega) _⟩
  ·have e1 : (checkS ds f != (0 : Int)) = true := by simp [hck]
   have HR := hid (HU.out.trans (if_pos (Or.inr hck)))
   have r0 := hbr.cell 0
   have rf := hbr.frozen 0
   have rl := hbr.lt
   have HW := hid (And.intro hbr hbw)
   clear hck hbf hbd hbr hbw HU
   go_wp2
   have r1 := (HW.out.1.set_ 0 (.slice none 0 0)).cell 0
   refine bodyPost_ret (v := .tuple #[.agg #[.slice none 0 0], .int .i64 1]) (by simp [results, Tryz.results12, go_sem, r1]) rfl ?_
   rw [HR.out]
   exact ⟨_, rfl, nil_nodes _ _, HW.out.2.setCell (p := ⟨w.heap.size + 1 + 1, 0, none⟩) (by show w.heap.size ≤ w.heap.size + 1 + 1; omega) _⟩
 ·have hv' : validDom ds = false := by simpa using hv
  have HR := hid (HU.out.trans (if_pos (Or.inl hv')))
  have r0 := hbr.cell 0
  have rf := hbr.frozen 0
  have rl := hbr.lt
  have HW := hid (And.intro hbr hbw)
  rw [hv']
  clear hv hv' hbf hbd hbr hbw HU
  go_wp2
  have r1 := (HW.out.1.set_ 0 (.slice none 0 0)).cell 0
  refine bodyPost_ret (v := .tuple #[.agg #[.slice none 0 0], .int .i64 1]) (by simp [results, Tryz.results12, go_sem, r1]) rfl ?_
  rw [HR.out]
  exact ⟨_, rfl, nil_nodes _ _, HW.out.2.setCell (p := ⟨w.heap.size + 1 + 1, 0, none⟩) (by show w.heap.size ≤ w.heap.size + 1 + 1; omega) _⟩
end Go.Proofs.YtcigjmlileckhaaGreatDoor
