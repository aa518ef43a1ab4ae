/- Walk of the closure of diagram.Build: a formula that is new. -/
import Derived.Test.YtcigjmlileckhaaGreatDoorM31
import Derived.Test.YtcigjmlileckhaaGreatDoorM9
/- Walk of the closure of diagram.Build: a formula that is new. -/
namespace Go.Proofs.YtcigjmlileckhaaGreatDoor
open Go.RowKit Go.Shelf
/-- The node for a value of the fact. -/
def gF (rest : List FactD) (i : Nat) (f : Fm) (x : FactD) (v : Int) (st : GSt) : Int × GSt := growS rest (i + 1) (givenS x.name v f) st
def grownS (rest : List FactD) (i : Nat) (f : Fm) (st : GSt) (x : FactD) : Int × GSt :=
 let r := kidsA (gF rest i f x) (startsS f x) st
 let o := innerS r.2.all i (startsS f x) r.1
 (o.1, ⟨o.2, kvISet r.2.done (keyT i f) o.1, r.2.full⟩)
/-- What is known of the facts behind. -/
def GrowIH (c : GV) (ds : List FactD) (Zd : Zone) (D : Option Addr) (dcap B0 : Nat) (rest : List FactD) : Prop :=
 ∀ (i : Nat) (f : Fm) (cs : List Value) (w : World) (st : GSt) (F Z Zf : Zone), rest = ds.drop i → i ≤ ds.length → GrIn c ds Zd D dcap B0 w st F Z Zf f cs →
  Calls Tryz.prog 39 (c.args cs i) w (GrPost c (.slice D ds.length dcap) w F Z (growS rest i f st))
section
variable {c : GV} {ds : List FactD} {Zd : Zone} {D : Option Addr} {dcap B0 : Nat} {w : World} {st : GSt} {F Z Zf : Zone} {f : Fm} {cs : List Value}
theorem GrIn.kid (h : GrIn c ds Zd D dcap B0 w st F Z Zf f cs) {w6 wr w7 : World} {st' : GSt} {kids : List Int} {vk : Value} {F' Z' : Zone} {cs' : List Value} {nm : ByteArray} {v : Int} (hk6 : Keeps (c.kept F) w w6) (hL : GrL c (.slice D ds.length dcap) w6 wr F Z st' kids vk F' Z')
  (hb7 : Below wr.heap.size wr w7) (hf7 : FmR (fun b => (Zf b ∧ b < w.heap.size) ∨ wr.heap.size ≤ b) w7 (givenS nm v f) cs') (hw : WSt st') (hn : inn st'.all ≤ 4000 + ds.length) :
  GrIn c ds Zd D dcap B0 w7 st' F' Z' (fun b => ((Zf b ∧ b < w.heap.size) ∨ wr.heap.size ≤ b) ∧ b < w7.heap.size) (givenS nm v f) cs' := by
 have s6 := hk6.size
 have s7 := hL.kept.size
 have s8 := hb7.size
 have hl := hL.mem.lt
 have hk7 : Keeps (c.kept F) w w7 := hk6.trans (hL.kept.trans (.of_below hb7))
 refine ⟨hL.mem.below hb7, FmR.live _ _ hf7, fun b hb => ⟨?_, hb.2⟩, (h.d.keep (hk7.mono fun b _ hb => (h.offD b hb).1)), fun b hb => ⟨kept_step hL.hF (h.offD b hb).1 (h.offD b hb).2 s6, by have := (h.offD b hb).2; omega⟩, h.tab.on (h.belowB hk7),
  ⟨by have := h.base.1; omega, fun b hb => ?_, h.base.2.2⟩, ok_given f h.ok, Nat.le_trans (size_given f) h.size, hw, hn, h.dom⟩
 ·rcases hb.1 with hb | hb
  ·exact kept_step hL.hF (h.offF b hb.1).1 hb.2 s6
  ·exact ⟨fun hf => by have := hL.mem.mkr.liveF b hf; omega, by have := hl.2.2; omega, by have := hl.2.1; omega⟩
 ·rcases hL.hF b hb with hb | hb
  ·exact h.base.2.1 b hb
  ·have := h.base.1; omega
set_option maxRecDepth 100000 in
set_option maxHeartbeats 8000000 in
theorem grow_new (rest : List FactD) (IH : GrowIH c ds Zd D dcap B0 rest) (i : Nat) (hrest : rest = ds.drop (i + 1)) (h : GrIn c ds Zd D dcap B0 w st F Z Zf f cs) (hc : ¬ (f.op = 1 ∨ f.op = 2)) (hi : i < ds.length) (hs : (st.full || decide (4000 < st.all.length)) = false) (hkn : kvI st.done (keyT i f) = none) :
  Calls Tryz.prog 39 (c.args cs i) w (GrPost c (.slice D ds.length dcap) w F Z (grownS rest i f st ds[i])) := by
 simp only [Bool.or_eq_false_iff] at hs
 obtain ⟨hfu, hal⟩ := hs
 have HH := hid h
 have HKN := hid hkn
 have HST := hid (show (⟨st.all, st.done, false⟩ : GSt) = st from by rw [← hfu])
 have HS := hid (fun (o : Obj) => (h.mem.setFull false).below (below1 _ o))
 have HK := hid (fun (o : Obj) => @set_kept c w F o (.bool false))
 have hkl := keyT_len (i := i) (f := f) (by have := validDom_len h.dom; omega) (by have := spell_len f (ok_plain f h.ok) (FmR.fitF _ _ h.fm); have := h.size; omega)
 obtain ⟨A, cap, rfl⟩ := FmR.form h.fm
 obtain ⟨AA, acap, a0, a0l⟩ := h.mem.mkr.all_cell
 have m0 := h.mem.mv.cell
 have m0l := h.mem.mv.lt
 have f0 := h.mem.fv.cell
 have f0f := h.mem.fv.free
 have f0l := h.mem.fv.lt
 have hdl := validDom_len h.dom
 have e1 : (f.op == (1 : Int)) = false := by simp; omega
 have e2 : (f.op == (2 : Int)) = false := by simp; omega
 have e3 : decide ((4000 : Int) < (st.all.length : Int)) = false := by simp at hal ⊢; omega
 have e4 : ((i : Int) == (ds.length : Int)) = false := by simp; omega
 rw [hfu] at f0
 clear h hc hkn
 unfold GV.args
 go_enter Tryz.func39, Tryz.ntmps39
 go_upto_region 4 with (fail)
 have hg := HS.out (.cells #[.int .i64 f.op, .string f.name, .int .i64 f.cmp, .int .i64 f.num, .slice A f.kids.length cap] 24)
 have hk := HK.out (.cells #[.int .i64 f.op, .string f.name, .int .i64 f.cmp, .int .i64 f.num, .slice A f.kids.length cap] 24)
 have HG := hid (And.intro hg hk)
 have hbx := Blk.new' (w.setCell ⟨c.Fv, 0, none⟩ (.bool false)) 24 #[.int .i64 f.op, .string f.name, .int .i64 f.cmp, .int .i64 f.num, .slice A f.kids.length cap] (n := w.heap.size) (by simp [World.setCell])
 clear m0 m0l f0 f0f f0l a0 a0l HS HK
 have d0 := hg.dv.cell
 have d0l := hg.dv.lt
 have f0 := hg.fv.cell
 have f0l := hg.fv.lt
 have hwz : w.heap.size < ((w.setCell ⟨c.Fv, 0, none⟩ (.bool false)).alloc (.cells #[.int .i64 f.op, .string f.name, .int .i64 f.cmp, .int .i64 f.num, .slice A f.kids.length cap] 24)).heap.size := by simp [World.setCell]
 generalize ((w.setCell ⟨c.Fv, 0, none⟩ (.bool false)).alloc (.cells #[.int .i64 f.op, .string f.name, .int .i64 f.cmp, .int .i64 f.num, .slice A f.kids.length cap] 24)) = W1 at *
 have HBX := hid hbx
 have b0 : W1.cell? ⟨w.heap.size, 0, none⟩ = some (.int .i64 f.op) := hbx.cell 0
 have b1 : W1.cell? ⟨w.heap.size, 1, none⟩ = some (.string f.name) := hbx.cell 1
 have b2 : W1.cell? ⟨w.heap.size, 2, none⟩ = some (.int .i64 f.cmp) := hbx.cell 2
 have b3 : W1.cell? ⟨w.heap.size, 3, none⟩ = some (.int .i64 f.num) := hbx.cell 3
 have b4 : W1.cell? ⟨w.heap.size, 4, none⟩ = some (.slice A f.kids.length cap) := hbx.cell 4
 clear hg hk hbx
 go_wp2_with fail
 refine (HH.out.spell HG.out.2).mono ?_
 rintro e w3 ⟨rfl, hB3, hb3⟩
 have hgk3 : Keeps (c.kept F) w w3 := HG.out.2.trans (.of_below hb3)
 have htab3 : TabB W1.heap.size w3 := ((HH.out.tab.on (HH.out.belowB hgk3)).mono (by have := HH.out.base.1; omega))
 have HI := hid (itoa_any (B := W1.heap.size) (i : Int) w3 (by constructor <;> omega) htab3)
 have HB3 := hid (And.intro hB3 hb3)
 have hadd : ∀ W, (Op.stringOp .add ⟨(Lib.itoa (i : Int)).toArray⟩ ⟨(spellT f).toArray⟩).run Tryz.prog W = .ok (.string ⟨(keyT i f).toArray⟩) W := fun W => by
  rw [← key_bytes]
  refine run_string_add_sum W _ _ ?_
  have h1 := hkl
  unfold keyT at h1
  rw [List.length_append] at h1
  simp only [ByteArray.size, List.size_toArray]
  omega
 clear b0 b1 b2 b3 b4 d0 d0l f0 f0l hgk3 htab3 hB3 hb3
 go_wp2_with fail
 refine HI.out.mono ?_
 rintro e w4 ⟨rfl, hb4⟩
 have HSTR := hid (Tryz.Builder_String_any_f W1.heap.size W1.heap.size (spellT f) w4 (isB_below HB3.out.1 hb4) (by have := HB3.out.2.size; have := hb4.size; omega))
 have HB4 := hid (HBEL_trans HB3.out.2 hb4)
 clear hb4
 go_wp2_with fail
 refine HSTR.out.mono ?_
 rintro e w5 ⟨rfl, -, hb5⟩
 have hbw5 : Below W1.heap.size W1 w5 := HB4.out.trans hb5
 have hg5 := HG.out.1.below hbw5
 have HB5 := hid hbw5
 have hbx5 := HBX.out.below hbw5 hwz
 have n0 := hg5.nv.cell
 have n0l := hg5.nv.lt
 have hl := Tryz.lookK hg5.done (keyT i f)
 simp only [HKN.out, Option.isSome_none] at hl
 have hgk5 : Keeps (c.kept F) w w5 := HG.out.2.trans (.of_below hbw5)
 obtain ⟨D', dcap', he, -, -, hat⟩ := HH.out.d.open_
 injection he with he1 he2 he3
 subst he1 he3
 clear he2
 obtain ⟨fb, foff, rfl, hfz, hfbl, x0, x1, x2, x3, hfit⟩ := hat i hi
 have HZ := hid (HH.out.offD fb hfz)
 have hfx : factOk ds[i] = true := validDom_fact HH.out.dom (List.getElem_mem hi)
 replace x0 := hgk5.cell (p := ⟨fb, foff + i * 4, none⟩) HZ.out.1 x0
 replace x1 := hgk5.cell (p := ⟨fb, foff + i * 4 + 1, none⟩) HZ.out.1 x1
 replace x2 := hgk5.cell (p := ⟨fb, foff + i * 4 + 2, none⟩) HZ.out.1 x2
 replace x3 := hgk5.cell (p := ⟨fb, foff + i * 4 + 3, none⟩) HZ.out.1 x3
 have x0l := lt_of_cell x0
 have b0 : w5.cell? ⟨w.heap.size, 0, none⟩ = some (.int .i64 f.op) := hbx5.cell 0
 have b1 : w5.cell? ⟨w.heap.size, 1, none⟩ = some (.string f.name) := hbx5.cell 1
 have b2 : w5.cell? ⟨w.heap.size, 2, none⟩ = some (.int .i64 f.cmp) := hbx5.cell 2
 have b3 : w5.cell? ⟨w.heap.size, 3, none⟩ = some (.int .i64 f.num) := hbx5.cell 3
 have b4 : w5.cell? ⟨w.heap.size, 4, none⟩ = some (.slice A f.kids.length cap) := hbx5.cell 4
 have b0l := hbx5.lt
 have d0 := hg5.dv.cell
 have d0l := hg5.dv.lt
 have hi1 : ((i : Nat) : Int) < (ds.length : Int) := by omega
 have hi0 : (0 : Int) ≤ ((i : Nat) : Int) := by omega
 have HST5 := hid (fun (W : World) (hW : Below w5.heap.size w5 W) => starts_any (fun b => Zf b ∧ b < w.heap.size) f ds[i] _ W
  (FmR.keep (.of_below hW) _ _ (FmR.keep (hgk5.mono fun b _ hb => (HH.out.offF b hb.1).1) _ _ (FmR.live _ _ HH.out.fm))) (fun b hb => by have := hgk5.size; have := hW.size; omega) (by have := HH.out.size; omega)
  (fun n hn => testN_bounds f HH.out.ok n hn) hfit (factOk_bounds hfx).2.1)
 have HX := hid (And.intro hfit hfx)
 have HG5 := hid (And.intro hg5 (And.intro hgk5 hbx5))
 generalize hxx : ds[i] = x at *
 have HXX := hid hxx
 clear hxx hb5 hbw5 hbx5 hg5 hgk5 HSTR HI hfit hfx hat hfz hfbl
 go_wp2
 go_region_held3 (fun w' => w'.cell? ⟨w.heap.size, 0, none⟩ = some (.int .i64 f.op) ∧ w'.cell? ⟨w.heap.size, 1, none⟩ = some (.string f.name) ∧ w'.cell? ⟨w.heap.size, 2, none⟩ = some (.int .i64 f.cmp) ∧ w'.cell? ⟨w.heap.size, 3, none⟩ = some (.int .i64 f.num) ∧ w'.cell? ⟨w.heap.size, 4, none⟩ = some (.slice A f.kids.length cap) ∧ w'.cell? ⟨c.Dv, 0, none⟩ = some (.slice (some ⟨fb, foff, none⟩) ds.length dcap) ∧ w'.cell? ⟨fb, foff + i * 4, none⟩ = some (.string x.name) ∧ w'.cell? ⟨fb, foff + i * 4 + 1, none⟩ = some (.int .i64 x.kind) ∧ w'.cell? ⟨fb, foff + i * 4 + 2, none⟩ = some (.int .i64 x.lo) ∧ w'.cell? ⟨fb, foff + i * 4 + 3, none⟩ = some (.int .i64 x.hi))
  (first | exact ⟨p0, p1, p2, p3, p4, p5, p6, p7, p8, p9⟩ | (refine ⟨?_, ?_, ?_, ?_, ?_, ?_, ?_, ?_, ?_, ?_⟩ <;> go_keep))
  (first
   | (go_at_call 44; refine (HST5.out _ (Below.refl _ _).drew).mono ?_; rintro e w6 ⟨v6, rfl, hown6, hb6⟩; have hbx6 := HG5.out.2.2.drew.below hb6 b0l; have p0 : w6.cell? ⟨w.heap.size, 0, none⟩ = some (.int .i64 f.op) := hbx6.cell 0; have p1 : w6.cell? ⟨w.heap.size, 1, none⟩ = some (.string f.name) := hbx6.cell 1; have p2 : w6.cell? ⟨w.heap.size, 2, none⟩ = some (.int .i64 f.cmp) := hbx6.cell 2; have p3 : w6.cell? ⟨w.heap.size, 3, none⟩ = some (.int .i64 f.num) := hbx6.cell 3; have p4 : w6.cell? ⟨w.heap.size, 4, none⟩ = some (.slice A f.kids.length cap) := hbx6.cell 4; have p5 := (hb6.cell (p := ⟨c.Dv, 0, none⟩) d0l).trans d0; have p6 := (hb6.cell (p := ⟨fb, foff + i * 4, none⟩) x0l).trans x0; have p7 := (hb6.cell (p := ⟨fb, foff + i * 4 + 1, none⟩) x0l).trans x1; have p8 := (hb6.cell (p := ⟨fb, foff + i * 4 + 2, none⟩) x0l).trans x2; have p9 := (hb6.cell (p := ⟨fb, foff + i * 4 + 3, none⟩) x0l).trans x3))
 obtain ⟨A6, cap6, rfl, -, -, -⟩ := Row.of_own hown6 (by decide)
 have hk56 : ∀ Z0, Keeps Z0 w5 w6 := fun Z0 => ((Keeps.refl Z0 w5).drew).trans (.of_below hb6)
 have hg6 := HG5.out.1.keep (hk56 _)
 rw [HST.out] at hg6
 have hgk6 : Keeps (c.kept F) w w6 := HG5.out.2.1.trans (hk56 _)
 have hasc := starts_asc f x
 have hfitS : ∀ v ∈ startsS f x, I64 v := fun v hv => by
  have hb := factOk_bounds HX.out.2
  unfold startsS at hv
  rcases List.mem_cons.1 hv with rfl | hv
  ·constructor <;> omega
  ·have := asc_mem hasc v hv; constructor <;> omega
 have hslen : (startsS f x).length ≤ 500 := by
  have h1 := startsS_len f x
  have h2 := testN_le x.name f
  have h3 := HH.out.size
  omega
 have hints := (Ints.of_own hown6 hfitS (by omega)).live
 have HV6 := hid hints
 have HFM := hid (FmR.keep (hgk6.mono fun b _ hb => (HH.out.offF b hb.1).1) _ _ (FmR.live _ _ HH.out.fm))
 have hwsz : w.heap.size ≤ w5.heap.size := HG5.out.2.1.size
 have hw6 : w5.heap.size ≤ w6.heap.size := hb6.size
 have HNEW := hid (fun b (hb : w.heap.size ≤ b) => (show c.kept F b from ⟨fun hf => by have := HH.out.mem.mkr.liveF b hf; omega, by have := HH.out.mem.lt.2.2; omega, by have := HH.out.mem.lt.2.1; omega⟩))
 have HG6 := hid (And.intro hg6 (And.intro hgk6 (HG5.out.2.2.keep (hk56 (fun _ => True)) trivial)))
 have hX0 : w6.cell? ⟨fb, foff + i * 4, none⟩ = some (.string x.name) := p6
 have HX0 := hid hX0
 have hfb6 := lt_of_cell hX0
 have hbx6l := hbx6.lt
 clear p0 p1 p2 p3 p4 p5 p6 p7 p8 p9 b0 b1 b2 b3 b4 b0l d0 d0l x0 x1 x2 x3 x0l hl n0 n0l hbx6 hg6 hgk6 hasc hfitS hints hX0 hk56 HG5 HST5 hb6
 go_wp2
 go_loopw [15, 77] (fun vv ix wr => ∃ (k : Nat) (vk : Value) (F' Z' : Zone), k ≤ (startsS f x).length ∧ ix = .int .i64 k ∧ vk = vv ∧ GrL c (.slice (some ⟨fb, foff, none⟩) ds.length dcap) w6 wr F Z (kidsA (gF rest i f x) ((startsS f x).take k) st).2 (kidsA (gF rest i f x) ((startsS f x).take k) st).1 vk F' Z') (fun _ ix _ => (startsS f x).length - (intOf ix).toNat)
 case atStart => exact ⟨0, _, F, Z, Nat.zero_le _, rfl, rfl, GrL.start HG6.out.1⟩
 case round =>
  obtain ⟨k, vk, F', Z', hk, rfl, rfl, hL⟩ := hrel
  by_cases hlt : k < (startsS f x).length
  ·obtain ⟨vb, voff, rfl, hvz, -, hvc⟩ := HV6.out.at_ hlt
   have hkF := fun b (h1 : w.heap.size ≤ b) (h2 : b < w6.heap.size) => (kept_step hL.hF (HNEW.out b h1) h2 (Nat.le_refl _) : c.kept F' b)
   have hvc' : wr.cell? ⟨vb, voff + k, none⟩ = some (.int .i64 (startsS f x)[k]) := hL.kept.cell (p := ⟨vb, voff + k, none⟩) (HNEW.out vb (Nat.le_trans hwsz hvz.1)) hvc
   have hvl := lt_of_cell hvc'
   obtain ⟨AK, capk, hvk, -, -, -⟩ := Row.of_own hL.own (by decide)
   have hown := hL.own
   have hk6 := hL.kept.size
   have HL := hid hL
   have HCELL := hid (fun (W : World) (hW : Keeps (fun b => c.kept F' b ∧ vk.ownBlock ≠ some b) wr W) => (show W.cell? ⟨c.Gv, 0, none⟩ = some (.func (.func 39) #[] #[.pointer (some ⟨c.Mv, 0, none⟩), .pointer (some ⟨c.Fv, 0, none⟩), .pointer (some ⟨c.Dv, 0, none⟩), .pointer (some ⟨c.Nv, 0, none⟩), .pointer (some ⟨c.Gv, 0, none⟩)]) ∧
     W.cell? ⟨w.heap.size, 0, none⟩ = some (.int .i64 f.op) ∧ W.cell? ⟨w.heap.size, 1, none⟩ = some (.string f.name) ∧ W.cell? ⟨w.heap.size, 2, none⟩ = some (.int .i64 f.cmp) ∧ W.cell? ⟨w.heap.size, 3, none⟩ = some (.int .i64 f.num) ∧ W.cell? ⟨w.heap.size, 4, none⟩ = some (.slice A f.kids.length cap) ∧
     W.cell? ⟨c.Dv, 0, none⟩ = some (.slice (some ⟨fb, foff, none⟩) ds.length dcap) ∧ W.cell? ⟨fb, foff + i * 4, none⟩ = some (.string x.name) from by
    have hvar : ∀ b, c.var b → (fun b => c.kept F' b ∧ vk.ownBlock ≠ some b) b := fun b hb => ⟨hL.mem.var b hb, fun e => (hL.row b e).2.2 hb⟩
    have hold : ∀ b, c.kept F b → b < w6.heap.size → (fun b => c.kept F' b ∧ vk.ownBlock ≠ some b) b := fun b hb hlt => ⟨kept_step hL.hF hb hlt (Nat.le_refl _), fun e => by have := (hL.own.lt b e).1; omega⟩
    have hbx := (HG6.out.2.2.keep hL.kept (HNEW.out _ (Nat.le_refl _))).keep hW (hold _ (HNEW.out _ (Nat.le_refl _)) (by omega))
    exact ⟨(hL.mem.gv.keep hW (hvar _ (Or.inr (Or.inr (Or.inr rfl))))).cell, hbx.cell 0, hbx.cell 1, hbx.cell 2, hbx.cell 3, hbx.cell 4, (hL.mem.dv.keep hW (hvar _ (Or.inr (Or.inl rfl)))).cell,
     hW.cell (p := ⟨fb, foff + i * 4, none⟩) (hold fb HZ.out.1 hfb6) (hL.kept.cell (p := ⟨fb, foff + i * 4, none⟩) HZ.out.1 HX0.out)⟩))
   subst hvk
   have hkk : (((startsS f x).take (k + 1))) = (startsS f x).take k ++ [(startsS f x)[k]] := List.take_succ_eq_append_getElem hlt
   have HKK := hid (show kidsA (gF rest i f x) ((startsS f x).take (k + 1)) st = ((kidsA (gF rest i f x) ((startsS f x).take k) st).1 ++ [(gF rest i f x (startsS f x)[k] (kidsA (gF rest i f x) ((startsS f x).take k) st).2).1], (gF rest i f x (startsS f x)[k] (kidsA (gF rest i f x) ((startsS f x).take k) st).2).2) from by rw [hkk, kidsA_snoc])
   have hki : (k : Int) < ((startsS f x).length : Int) := by omega
   have hkl9 : (kidsA (gF rest i f x) ((startsS f x).take k) st).1.length = k := by rw [kidsA_length, List.length_take]; omega
   have HKL9 := hid hkl9
   have HW5 := hid (kids_w (f := gF rest i f x) (B := 4000 + rest.length) (fun v st => grow_pre rest _ _ st) (fun v st hs => grow_w rest _ _ st hs) ((startsS f x).take k) st HH.out.wst)
   clear hL hvc hkk hkF hvz hkl9
   generalize (kidsA (gF rest i f x) ((startsS f x).take k) st).1 = kids at *
   generalize (kidsA (gF rest i f x) ((startsS f x).take k) st).2 = st' at *
   generalize (startsS f x)[k] = v at *
   go_wp2
   refine wp_region_S 16 (fun W => Keeps (fun b => c.kept F' b ∧ (Value.slice AK kids.length capk).ownBlock ≠ some b) wr W) (by kernel_rfl) ?_
   have hS : (fun W => Keeps (fun b => c.kept F' b ∧ (Value.slice AK kids.length capk).ownBlock ≠ some b) wr W) wr.drew := (Keeps.refl _ _).drew
   (refine wpAnyS_take0 (i := 0) (v := ?_) rfl (by kernel_rfl) (by kernel_rfl) (fun _ _ _ h => h) (Or.inl ⟨by rfl, ?_⟩) (Or.inr hS) ?_; rotate_left; (intro w hSw; clear hSw; go_simp; (try with_reducible rfl)); ((try simp only [Act.put]); (try simp only [nrA]); (try simp only [nrB]); (try simp only [nrC])))
   (refine wpAnyS_take (i := 1) (v := ?_) rfl (by kernel_rfl) (by kernel_rfl) (fun _ _ _ h => h) (Or.inl ⟨by rfl, ?_⟩) hS ?_; rotate_left; (intro w hSw; have hkw := hSw; obtain ⟨h0, h1, h2, h3, h4, h5, h6, h7⟩ := HCELL.out _ hkw; go_simp; (try with_reducible rfl)); ((try simp only [Act.put]); (try simp only [nrA]); (try simp only [nrB]); (try simp only [nrC])))
   (refine wpAnyS_take (i := 2) (v := ?_) rfl (by kernel_rfl) (by kernel_rfl) (fun _ _ _ h => h) (Or.inl ⟨by rfl, ?_⟩) hS ?_; rotate_left; (intro w hSw; have hkw := hSw; obtain ⟨h0, h1, h2, h3, h4, h5, h6, h7⟩ := HCELL.out _ hkw; go_simp; (try with_reducible rfl)); ((try simp only [Act.put]); (try simp only [nrA]); (try simp only [nrB]); (try simp only [nrC])))
   (refine wpAnyS_take0 (i := 3) (v := ?_) rfl (by kernel_rfl) (by kernel_rfl) (fun _ _ _ h => h) (Or.inl ⟨by rfl, ?_⟩) (Or.inr hS) ?_; rotate_left; (intro w hSw; clear hSw; go_simp; (try with_reducible rfl)); ((try simp only [Act.put]); (try simp only [nrA]); (try simp only [nrB]); (try simp only [nrC])))
   (refine wpAnyS_take (i := 4) (v := ?_) rfl (by kernel_rfl) (by kernel_rfl) (fun _ _ _ h => h) (Or.inl ⟨by rfl, ?_⟩) hS ?_; rotate_left; (intro w hSw; have hkw := hSw; obtain ⟨h0, h1, h2, h3, h4, h5, h6, h7⟩ := HCELL.out _ hkw; go_simp; (try with_reducible rfl)); ((try simp only [Act.put]); (try simp only [nrA]); (try simp only [nrB]); (try simp only [nrC])))
   (refine wpAnyS_take0 (i := 5) (v := ?_) rfl (by kernel_rfl) (by kernel_rfl) (fun _ _ _ h => h) (Or.inl ⟨by rfl, ?_⟩) (Or.inr hS) ?_; rotate_left; (intro w hSw; clear hSw; go_simp; (try with_reducible rfl)); ((try simp only [Act.put]); (try simp only [nrA]); (try simp only [nrB]); (try simp only [nrC])))
   (refine wpAnyS_take0 (i := 6) (v := ?_) rfl (by kernel_rfl) (by kernel_rfl) (fun _ _ _ h => h) (Or.inl ⟨by rfl, ?_⟩) (Or.inr hS) ?_; rotate_left; (intro w hSw; clear hSw; go_simp; (try with_reducible rfl)); ((try simp only [Act.put]); (try simp only [nrA]); (try simp only [nrB]); (try simp only [nrC])))
   (refine wpAnyS_take0 (i := 7) (v := ?_) rfl (by kernel_rfl) (by kernel_rfl) (fun _ _ _ h => h) (Or.inl ⟨by rfl, ?_⟩) (Or.inr hS) ?_; rotate_left; (intro w hSw; clear hSw; go_simp; (try with_reducible rfl)); ((try simp only [Act.put]); (try simp only [nrA]); (try simp only [nrB]); (try simp only [nrC])))
   (refine wpAnyS_take (i := 8) (v := ?_) rfl (by kernel_rfl) (by kernel_rfl) (fun _ _ _ h => h) (Or.inl ⟨by rfl, ?_⟩) hS ?_; rotate_left; (intro w hSw; have hkw := hSw; obtain ⟨h0, h1, h2, h3, h4, h5, h6, h7⟩ := HCELL.out _ hkw; go_simp; (try with_reducible rfl)); ((try simp only [Act.put]); (try simp only [nrA]); (try simp only [nrB]); (try simp only [nrC])))
   (refine wpAnyS_take0 (i := 9) (v := ?_) rfl (by kernel_rfl) (by kernel_rfl) (fun _ _ _ h => h) (Or.inl ⟨by rfl, ?_⟩) (Or.inr hS) ?_; rotate_left; (intro w hSw; clear hSw; go_simp; (try with_reducible rfl)); ((try simp only [Act.put]); (try simp only [nrA]); (try simp only [nrB]); (try simp only [nrC])))
   (refine wpAnyS_take0 (i := 11) (v := ?_) rfl (by kernel_rfl) (by kernel_rfl) (fun _ _ _ h => h) (Or.inl ⟨by rfl, ?_⟩) (Or.inr hS) ?_; rotate_left; (intro w hSw; clear hSw; go_simp; (try with_reducible rfl)); ((try simp only [Act.put]); (try simp only [nrA]); (try simp only [nrB]); (try simp only [nrC])))
   (refine wpAnyS_take0 (i := 12) (v := ?_) rfl (by kernel_rfl) (by kernel_rfl) (fun _ _ _ h => h) (Or.inl ⟨by rfl, ?_⟩) (Or.inr hS) ?_; rotate_left; (intro w hSw; clear hSw; go_simp; (try with_reducible rfl)); ((try simp only [Act.put]); (try simp only [nrA]); (try simp only [nrB]); (try simp only [nrC])))
   refine wpAnyS_one (i := 10) (by kernel_rfl) rfl rfl (fun K hK => ?_)
   go_wp2_with fail
   have hb7z := HL.out.kept
   refine (given_any x.name v ds (fsize f) f (Nat.le_refl _) (by have := HH.out.size; omega) (fun b => Zf b ∧ b < w.heap.size) _ wr.drew (FmR.keep ((hb7z.mono fun b _ hb => (HH.out.offF b hb.1).1).drew) _ _ HFM.out) HH.out.ok).mono ?_
   rintro e w7 ⟨cs', rfl, hf7, hb7⟩
   have hb7' : Below wr.heap.size wr w7 := ((Below.refl wr.heap.size wr).drew).trans hb7
   have hS7 : Keeps (fun b => c.kept F' b ∧ (Value.slice AK kids.length capk).ownBlock ≠ some b) wr w7 := .of_below hb7'
   have hrl : rest.length = ds.length - (i + 1) := by rw [hrest]; simp
   have HCALL := hid (IH (i + 1) _ cs' w7 st' F' Z' _ hrest (by omega) (HH.out.kid (nm := x.name) (v := v) HG6.out.2.1 HL.out hb7' hf7 HW5.out.1 (by have h1 := HW5.out.2.2; have h2 := HH.out.len; omega)))
   have HB7 := hid hb7'
   refine hK _ _ (Or.inr hS7) ?_
   clear hK K hb7 hb7z hf7
   ((try simp only [Act.put]); (try simp only [nrA]); (try simp only [nrB]); (try simp only [nrC]))
   refine wpAnyS_one (i := 13) (by kernel_rfl) rfl rfl (fun K hK => ?_)
   go_wp2_with fail
   refine HCALL.out.mono ?_
   intro e w8 hp8
   have hS8 : Keeps (fun b => c.kept F' b ∧ (Value.slice AK kids.length capk).ownBlock ≠ some b) wr w8 := hS7.trans (hp8.2.2.mono fun b _ hb => hb.1)
   have hown8 : w8.ownsRow w6.heap.size 3 1 (.slice AK kids.length capk) kids.length (kids.map (.int .i64)) := own_keep (own_keep HL.out.own (Keeps.of_below (Z := fun _ => True) HB7.out) (fun _ _ => trivial)) hp8.2.2 (fun k hk => (HL.out.row k hk).1)
   have hw68 : w6.heap.size ≤ w8.heap.size := Nat.le_trans hk6 (Nat.le_trans HB7.out.size hp8.2.2.size)
   have HP8 := hid hp8
   obtain rfl := hp8.1
   refine hK _ _ (Or.inr hS8) ?_
   clear hK K hp8
   ((try simp only [Act.put]); (try simp only [nrA]); (try simp only [nrB]); (try simp only [nrC]))
   have HKK2 := hid (show gF rest i f x v st' = growS rest (i + 1) (givenS x.name v f) st' from rfl)
   rw [← HKK2.out] at HP8 ⊢
   generalize gF rest i f x v st' = r at *
   refine wpAnyS_one (i := 14) (by kernel_rfl) rfl rfl (fun K hK => ?_)
   go_wp2_with fail
   refine hK _ _ (Or.inr (hS8.alloc _)) ?_
   clear hK K
   ((try simp only [Act.put]); (try simp only [nrA]); (try simp only [nrB]); (try simp only [nrC]))
   refine wpAnyS_one (i := 15) (by kernel_rfl) rfl rfl (fun K hK => ?_)
   refine oper_append1 (.tmp 81) (.tmp 95) _ rfl Tryz.underlying28 Tryz.eInt rfl (hown8.alloc _) rfl (news := [.int .i64 r.1]) rfl (one_cell (by simp)) (by simp [Value.oneCell']) (by have := HKL9.out; unfold maxLen; omega) (by have := HKL9.out; omega) (by simp; omega) ?_
   intro v5 w10 ho10 hg10 hat10
   have HST := hid (HL.out.step HB7.out HP8.out hg10 ho10 hat10)
   refine hK _ _ (Or.inr ((hS8.alloc _).grown hg10 (fun k hk _ hz => hz.2 hk))) ?_
   clear hK K hg10 ho10 hat10
   ((try simp only [Act.put]); (try simp only [nrA]); (try simp only [nrB]); (try simp only [nrC]))
   refine wpAnyS_one (i := 16) (by kernel_rfl) rfl rfl (fun K hK => ?_)
   go_wp2_with fail
   refine hK _ _ (Or.inl rfl) ?_
   clear hK K
   ((try simp only [Act.put]); (try simp only [nrA]); (try simp only [nrB]); (try simp only [nrC]))
   refine wpAnyS_done (by kernel_rfl) ?_ _
   go_wp2
   go_roundw
   case rel =>
    obtain ⟨F2, Z2, hL2⟩ := HST.out
    refine ⟨k + 1, _, F2, Z2, by omega, by go_num, rfl, ?_⟩
    rw [HKK.out]
    exact hL2
   case measure => simp [intOf]; omega
  ·obtain rfl : k = (startsS f x).length := by omega
   rw [List.take_length] at hL
   have hlk := kidsA_length (f := gF rest i f x) (startsS f x) st
   have hW := kids_w (f := gF rest i f x) (B := 4000 + rest.length) (fun v st => grow_pre rest _ _ st) (fun v st hs => grow_w rest _ _ st hs) (startsS f x) st HH.out.wst
   have hne : (kidsA (gF rest i f x) (startsS f x) st).1 ≠ [] := kidsA_ne (by simp [startsS])
   have HEND := hid (show grownS rest i f st ds[i] = ((innerS (kidsA (gF rest i f x) (startsS f x) st).2.all i (startsS f x) (kidsA (gF rest i f x) (startsS f x) st).1).1, ⟨(innerS (kidsA (gF rest i f x) (startsS f x) st).2.all i (startsS f x) (kidsA (gF rest i f x) (startsS f x) st).1).2, kvISet (kidsA (gF rest i f x) (startsS f x) st).2.done (keyT i f) (innerS (kidsA (gF rest i f x) (startsS f x) st).2.all i (startsS f x) (kidsA (gF rest i f x) (startsS f x) st).1).1, (kidsA (gF rest i f x) (startsS f x) st).2.full⟩) from by rw [HXX.out]; rfl)
   generalize (kidsA (gF rest i f x) (startsS f x) st).1 = kids at *
   generalize (kidsA (gF rest i f x) (startsS f x) st).2 = st' at *
   have hrl : rest.length = ds.length - (i + 1) := by rw [hrest]; simp
   have hall : st'.all.length ≤ 5000 := by
    have h1 := hW.1.tab.len
    have h2 := hW.2.2
    have h3 := HH.out.len
    omega
   have hkfit : ∀ q ∈ kids, I64 q := fun q hq => by
    have := hW.2.1 q hq
    have h1 := this.1
    have h2 := this.2
    constructor <;> omega
   have hgk : Keeps (c.kept F) w wr := HG6.out.2.1.trans hL.kept
   have hs6 := hL.kept.size
   have HINNER := hid (inner_any c.M st'.all F' Z' (fun b => (w.heap.size ≤ b ∧ b < w6.heap.size) ∨ vk.ownBlock = some b) (i : Int) (.slice A6 (startsS f x).length cap6) vk (startsS f x) kids wr hL.mem.mkr
    ((HV6.out.keep (hL.kept.mono fun b _ hb => HNEW.out b (Nat.le_trans hwsz hb.1))).mono fun b hb => Or.inl ⟨Nat.le_trans hwsz hb.1, hb.2⟩) ((ints_own hL.own hkfit (by omega)).mono fun b hb => Or.inr hb)
    (fun b hb => by
     rcases hb with hb | hb
     ·exact (kept_step hL.hF (HNEW.out b hb.1) hb.2 (Nat.le_refl _)).1
     ·exact (hL.row b hb).1.1)
    (by constructor <;> omega) hlk.symm hne (by omega) (by omega) ((HH.out.tab.on (HH.out.belowB hgk)).mono (by have := HH.out.base.1; have := hgk.size; omega)))
   obtain ⟨AK, capk, rfl, -, -, -⟩ := Row.of_own hL.own (by decide)
   have m0 := hL.mem.mv.cell
   have m0l := hL.mem.mv.lt
   have HL := hid hL
   have HGK := hid hgk
   clear hL hlk hW hne hkfit hgk hall
   generalize innerS st'.all i (startsS f x) kids = o at *
   go_wp2_with fail
   refine HINNER.out.mono ?_
   intro e w8 hp8
   obtain ⟨rfl, ⟨F2, Z2, hm2, hF2, hZ2⟩, hk8⟩ := hp8
   have hg8 := GrW.made HL.out.mem (Below.refl _ _) hm2 hF2 hZ2 hk8
   have n0 := hg8.nv.cell
   have n0l := hg8.nv.lt
   have HG8 := hid hg8
   have HD8 := hid hg8.done
   have HK8 := hid (And.intro hk8 (And.intro hF2 hZ2))
   clear hg8 hm2 hF2 hZ2 hk8 HINNER m0 m0l
   go_wp2_with (at_mapUpdate; refine wpList_mapStore rfl (.tmp 103) (.tmp 104) _ rfl (keyOk_string (P := Tryz.prog) (k := 9) Tryz.underlying9) (e := 3) Tryz.underlying65 rfl (HD8.out) ⟨(keyT i f).toArray⟩ rfl ?_; intro w9 hm9 hk9 hsz9 hce9 hfr9)
   have hm9' : MapIs encS w9 c.db (kvG (kvISet st'.done (keyT i f) o.1)) := by rw [← kvG_set]; exact hm9
   have HE := hid (show GrPost c (.slice (some ⟨fb, foff, none⟩) ds.length dcap) w F Z (grownS rest i f st ds[i]) (.returned (.int .i64 o.1)) w9 from by
    rw [HEND.out]
    have hs8 := HK8.out.1.size
    have h6 := HG6.out.2.1.size
    refine ⟨rfl, ⟨F2, Z2, HG8.out.setDone hm9' hk9, fun b hb => ?_, fun b hb => ?_⟩, ⟨hk9.os.trans (HK8.out.1.os.trans HGK.out.os), hk9.tape.trans (HK8.out.1.tape.trans HGK.out.tape), hk9.output.trans (HK8.out.1.output.trans HGK.out.output), by have := HGK.out.size; omega, fun k hk hz => ?_⟩⟩
    ·rcases HK8.out.2.1 b hb with hb | hb
     ·rcases HL.out.hF b hb with hb | hb
      ·exact Or.inl hb
      ·exact Or.inr (by omega)
     ·exact Or.inr (by omega)
    ·rcases HK8.out.2.2 b hb with hb | hb
     ·rcases HL.out.hZ b hb with hb | hb
      ·exact Or.inl hb
      ·exact Or.inr (by omega)
     ·exact Or.inr (by omega)
    ·have hs9 := HGK.out.size
     rw [hk9.block k (by omega) hz.2.1, HK8.out.1.block k (by omega) (kept_step HL.out.hF hz hk (by omega)).1, HGK.out.block k hk hz])
   clear hm9 hm9' hk9 hsz9 hce9 hfr9 n0 n0l
   go_wp2
   go_ret
   exact HE.out
/-- The closure of diagram.Build. -/
theorem grow_any : ∀ rest : List FactD, GrowIH c ds Zd D dcap B0 rest := by
 intro rest
 induction rest with
 | nil =>
  intro i f cs w st F Z Zf hr hi h
  have hi' : i = ds.length := by
   have := congrArg List.length hr
   simp at this; omega
  by_cases hc : f.op = 1 ∨ f.op = 2
  ·have e : growS [] i f st = leafG (decide (f.op = 1)) st.full st := by unfold growS; rw [if_pos hc]
   rw [e]
   exact grow_leaf i h hc
  ·have e : growS [] i f st = leafG false (st.full || decide (4000 < st.all.length)) st := by unfold growS; rw [if_neg hc]
   rw [e]
   exact grow_stop i h hc hi (Or.inr hi')
 | cons x rest ih =>
  intro i f cs w st F Z Zf hr hi h
  have hlt : i < ds.length := by
   have := congrArg List.length hr
   simp at this; omega
  have hdr : ds.drop i = ds[i] :: ds.drop (i + 1) := List.drop_eq_getElem_cons hlt
  rw [hdr] at hr
  injection hr with hx hrest
  by_cases hc : f.op = 1 ∨ f.op = 2
  ·have e : growS (x :: rest) i f st = leafG (decide (f.op = 1)) st.full st := by unfold growS; rw [if_pos hc]
   rw [e]
   exact grow_leaf i h hc
  ·by_cases hs : (st.full || decide (4000 < st.all.length)) = true
   ·have e : growS (x :: rest) i f st = leafG false (st.full || decide (4000 < st.all.length)) st := by unfold growS; rw [if_neg hc, if_pos hs, hs]
    rw [e]
    exact grow_stop i h hc hi (Or.inl hs)
   ·cases hk : kvI st.done (keyT i f) with
    | some k =>
     have e : growS (x :: rest) i f st = (k, st) := by unfold growS; rw [if_neg hc, if_neg hs]; simp only [hk]
     rw [e]
     exact grow_known i h hc hlt (by simpa using hs) hk
    | none =>
     have e : growS (x :: rest) i f st = grownS rest i f st ds[i] := by rw [← hx]; unfold growS; rw [if_neg hc, if_neg hs]; simp only [hk]; rfl
     rw [e]
     exact grow_new rest ih i hrest h hc hlt (by simpa using hs) hk
end
end Go.Proofs.YtcigjmlileckhaaGreatDoor
