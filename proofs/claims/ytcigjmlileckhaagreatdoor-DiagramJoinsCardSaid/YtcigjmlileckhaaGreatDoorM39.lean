/- The walk of pair (printed by mkW64.py). -/
import Derived.Test.YtcigjmlileckhaaGreatDoorM38
/- The walk of pair (printed by mkW64.py). -/
namespace Go.Proofs.YtcigjmlileckhaaGreatDoor
open Go.RowKit
/-- The boxes of pair's arguments and results. -/
structure Pw (w0 w : World) (A : Option Addr) (cap : Nat) (B : Option Addr) (bcap : Nat) (D : Option Addr) (dcap : Nat) (f g : Fm) (ds : List FactD) (Z : Zone) : Prop where
 fb : Blk w w0.heap.size 24 #[.int .i64 f.op, .string f.name, .int .i64 f.cmp, .int .i64 f.num, .slice A f.kids.length cap]
 gb : Blk w (w0.heap.size + 1) 24 #[.int .i64 g.op, .string g.name, .int .i64 g.cmp, .int .i64 g.num, .slice B g.kids.length bcap]
 db : Blk w (w0.heap.size + 1 + 1) 27 #[.slice D ds.length dcap]
 r1 : Blk w (w0.heap.size + 1 + 1 + 1) 34 #[.slice none 0 0]
 r2 : Blk w (w0.heap.size + 1 + 1 + 1 + 1) 34 #[.slice none 0 0]
 fm : FmR Z w f [.int .i64 f.op, .string f.name, .int .i64 f.cmp, .int .i64 f.num, .slice A f.kids.length cap]
 gm : FmR Z w g [.int .i64 g.op, .string g.name, .int .i64 g.cmp, .int .i64 g.num, .slice B g.kids.length bcap]
 fs : Facts Z w (.slice D ds.length dcap) ds
 below : Below w0.heap.size w0 w
 tab : TabB w.heap.size w
 zone : ∀ b, Z b → b < w.heap.size
theorem Pw.on {w0 w w' : World} {A : Option Addr} {cap : Nat} {B : Option Addr} {bcap : Nat} {D : Option Addr} {dcap : Nat} {f g : Fm} {ds : List FactD} {Z : Zone} (h : Pw w0 w A cap B bcap D dcap f g ds Z) (hb : Below w.heap.size w w') : Pw w0 w' A cap B bcap D dcap f g ds Z :=
 ⟨h.fb.below hb h.fb.lt, h.gb.below hb h.gb.lt, h.db.below hb h.db.lt, h.r1.below hb h.r1.lt, h.r2.below hb h.r2.lt, FmR.keep (.of_below hb) _ _ h.fm, FmR.keep (.of_below hb) _ _ h.gm, h.fs.keep (.of_below hb), h.below.trans (hb.mono h.below.size), (h.tab.on hb).mono hb.size, fun b hz => Nat.lt_of_lt_of_le (h.zone b hz) hb.size⟩
theorem Pw.start {w : World} {A : Option Addr} {cap : Nat} {B : Option Addr} {bcap : Nat} {D : Option Addr} {dcap : Nat} {f g : Fm} {ds : List FactD} {Z : Zone} (hf : FmR Z w f [.int .i64 f.op, .string f.name, .int .i64 f.cmp, .int .i64 f.num, .slice A f.kids.length cap]) (hg : FmR Z w g [.int .i64 g.op, .string g.name, .int .i64 g.cmp, .int .i64 g.num, .slice B g.kids.length bcap]) (hd : Facts Z w (.slice D ds.length dcap) ds) (hz : ∀ b, Z b → b < w.heap.size) (htab : TabB w.heap.size w) :
  Pw w (((((w.alloc (.cells #[.int .i64 f.op, .string f.name, .int .i64 f.cmp, .int .i64 f.num, .slice A f.kids.length cap] 24)).alloc (.cells #[.int .i64 g.op, .string g.name, .int .i64 g.cmp, .int .i64 g.num, .slice B g.kids.length bcap] 24)).alloc (.cells #[.slice D ds.length dcap] 27)).alloc (.cells #[.slice none 0 0] 34)).alloc (.cells #[.slice none 0 0] 34)) A cap B bcap D dcap f g ds Z := by
 have hb2 := ((((below1 w (.cells #[.int .i64 f.op, .string f.name, .int .i64 f.cmp, .int .i64 f.num, .slice A f.kids.length cap] 24)).alloc (by simp) (.cells #[.int .i64 g.op, .string g.name, .int .i64 g.cmp, .int .i64 g.num, .slice B g.kids.length bcap] 24)).alloc (by simp; omega) (.cells #[.slice D ds.length dcap] 27)).alloc (by simp; omega) (.cells #[.slice none 0 0] 34)).alloc (by simp; omega) (.cells #[.slice none 0 0] 34)
 exact ⟨((((Blk.new w _ _).alloc _).alloc _).alloc _).alloc _, (((Blk.new' (w.alloc (.cells #[.int .i64 f.op, .string f.name, .int .i64 f.cmp, .int .i64 f.num, .slice A f.kids.length cap] 24)) _ _ (by simp)).alloc _).alloc _).alloc _, ((Blk.new' ((w.alloc (.cells #[.int .i64 f.op, .string f.name, .int .i64 f.cmp, .int .i64 f.num, .slice A f.kids.length cap] 24)).alloc (.cells #[.int .i64 g.op, .string g.name, .int .i64 g.cmp, .int .i64 g.num, .slice B g.kids.length bcap] 24)) _ _ (by simp)).alloc _).alloc _, (Blk.new' (((w.alloc (.cells #[.int .i64 f.op, .string f.name, .int .i64 f.cmp, .int .i64 f.num, .slice A f.kids.length cap] 24)).alloc (.cells #[.int .i64 g.op, .string g.name, .int .i64 g.cmp, .int .i64 g.num, .slice B g.kids.length bcap] 24)).alloc (.cells #[.slice D ds.length dcap] 27)) _ _ (by simp)).alloc _, Blk.new' _ _ _ (by simp), FmR.keep (.of_below hb2) _ _ hf, FmR.keep (.of_below hb2) _ _ hg, hd.keep (.of_below hb2), hb2, (htab.on hb2).mono hb2.size, fun b h => Nat.lt_of_lt_of_le (hz b h) hb2.size⟩
/-- What pair answers: both diagrams, or no. -/
def PairPost (w : World) (ds : List FactD) (f g : Fm) (e : Ending) (w' : World) : Prop :=
 Below w.heap.size w w' ∧ ((smallS f ds = true ∧ smallS g ds = true ∧ (buildS ds f).2 = 0 ∧ (buildS ds g).2 = 0 ∧ ∃ A a cap A' a' cap', e = .returned (.tuple #[.agg #[.slice A a cap], .agg #[.slice A' a' cap'], .bool true]) ∧ Nodes (fun _ => True) w' (.slice A a cap) (buildS ds f).1 ∧ Nodes (fun _ => True) w' (.slice A' a' cap') (buildS ds g).1) ∨
  ∃ A a cap A' a' cap', e = .returned (.tuple #[.agg #[.slice A a cap], .agg #[.slice A' a' cap'], .bool false]))
set_option maxRecDepth 100000 in
set_option maxHeartbeats 16000000 in
theorem pair_any (Z : Zone) (f g : Fm) (cs cs' : List Value) (vd : Value) (ds : List FactD) (w : World) (hf : FmR Z w f cs) (hg : FmR Z w g cs') (hd : Facts Z w vd ds) (hz : ∀ b, Z b → b < w.heap.size) (htab : TabB w.heap.size w) :
  Calls Tryz.prog 19 #[.agg cs.toArray, .agg cs'.toArray, .agg #[vd]] w (PairPost w ds f g) := by
 obtain ⟨A, cap, rfl⟩ := FmR.form hf
 obtain ⟨B, bcap, rfl⟩ := FmR.form hg
 obtain ⟨D, dcap, hvd, -, -, -⟩ := hd.open_
 subst hvd
 have HL := hid (Pw.start hf hg hd hz htab)
 clear hf hg hd hz htab
 go_enter Tryz.func19, Tryz.ntmps19
 go_upto_region 1 with fail
 generalize hw5 : ((((w.alloc (.cells #[.int .i64 f.op, .string f.name, .int .i64 f.cmp, .int .i64 f.num, .slice A f.kids.length cap] 24)).alloc (.cells #[.int .i64 g.op, .string g.name, .int .i64 g.cmp, .int .i64 g.num, .slice B g.kids.length bcap] 24)).alloc (.cells #[.slice D ds.length dcap] 27)).alloc (.cells #[.slice none 0 0] 34)).alloc (.cells #[.slice none 0 0] 34) = w5 at *
 clear hw5
 have f0 : w5.cell? ⟨w.heap.size, 0, none⟩ = some (.int .i64 f.op) := HL.out.fb.cell 0
 have f1 : w5.cell? ⟨w.heap.size, 1, none⟩ = some (.string f.name) := HL.out.fb.cell 1
 have f2 : w5.cell? ⟨w.heap.size, 2, none⟩ = some (.int .i64 f.cmp) := HL.out.fb.cell 2
 have f3 : w5.cell? ⟨w.heap.size, 3, none⟩ = some (.int .i64 f.num) := HL.out.fb.cell 3
 have f4 : w5.cell? ⟨w.heap.size, 4, none⟩ = some (.slice A f.kids.length cap) := HL.out.fb.cell 4
 have fl : w.heap.size < w5.heap.size := HL.out.fb.lt
 have d0 : w5.cell? ⟨w.heap.size + 1 + 1, 0, none⟩ = some (.slice D ds.length dcap) := HL.out.db.cell 0
 have dl : w.heap.size + 1 + 1 < w5.heap.size := HL.out.db.lt
 have HS := hid (small_any Z Z f _ _ ds w5 HL.out.fm HL.out.fs)
 by_cases hs : smallS f ds = true
 ·rw [hs] at HS
  have H1 := hid hs
  clear hs
  go_wp2_with fail
  refine (HS.out).mono ?_
  rintro e w6 ⟨rfl, hb⟩
  replace HL := hid (HL.out.on hb)
  clear hb f0 f1 f2 f3 f4 fl d0 dl HS
  have g0 : w6.cell? ⟨w.heap.size + 1, 0, none⟩ = some (.int .i64 g.op) := HL.out.gb.cell 0
  have g1 : w6.cell? ⟨w.heap.size + 1, 1, none⟩ = some (.string g.name) := HL.out.gb.cell 1
  have g2 : w6.cell? ⟨w.heap.size + 1, 2, none⟩ = some (.int .i64 g.cmp) := HL.out.gb.cell 2
  have g3 : w6.cell? ⟨w.heap.size + 1, 3, none⟩ = some (.int .i64 g.num) := HL.out.gb.cell 3
  have g4 : w6.cell? ⟨w.heap.size + 1, 4, none⟩ = some (.slice B g.kids.length bcap) := HL.out.gb.cell 4
  have gl : w.heap.size + 1 < w6.heap.size := HL.out.gb.lt
  have d0 : w6.cell? ⟨w.heap.size + 1 + 1, 0, none⟩ = some (.slice D ds.length dcap) := HL.out.db.cell 0
  have dl : w.heap.size + 1 + 1 < w6.heap.size := HL.out.db.lt
  have HS := hid (small_any Z Z g _ _ ds w6 HL.out.gm HL.out.fs)
  by_cases hs : smallS g ds = true
  ·rw [hs] at HS
   have H2 := hid hs
   clear hs
   go_wp2_with fail
   refine (HS.out).mono ?_
   rintro e w7 ⟨rfl, hb⟩
   replace HL := hid (HL.out.on hb)
   clear hb g0 g1 g2 g3 g4 gl d0 dl HS
   have f0 : w7.cell? ⟨w.heap.size, 0, none⟩ = some (.int .i64 f.op) := HL.out.fb.cell 0
   have f1 : w7.cell? ⟨w.heap.size, 1, none⟩ = some (.string f.name) := HL.out.fb.cell 1
   have f2 : w7.cell? ⟨w.heap.size, 2, none⟩ = some (.int .i64 f.cmp) := HL.out.fb.cell 2
   have f3 : w7.cell? ⟨w.heap.size, 3, none⟩ = some (.int .i64 f.num) := HL.out.fb.cell 3
   have f4 : w7.cell? ⟨w.heap.size, 4, none⟩ = some (.slice A f.kids.length cap) := HL.out.fb.cell 4
   have fl : w.heap.size < w7.heap.size := HL.out.fb.lt
   have d0 : w7.cell? ⟨w.heap.size + 1 + 1, 0, none⟩ = some (.slice D ds.length dcap) := HL.out.db.cell 0
   have dl : w.heap.size + 1 + 1 < w7.heap.size := HL.out.db.lt
   have HB := hid (build_any Z Z (.slice D ds.length dcap) f _ ds w7 HL.out.fm HL.out.zone HL.out.fs HL.out.zone (by have := small_size H1.out; omega) HL.out.tab)
   generalize hgn : buildS ds f = gn1 at *
   obtain ⟨t1, n1⟩ := gn1
   go_wp2_with fail
   refine HB.out.mono ?_
   rintro e wb ⟨vb, rfl, hn, hb⟩
   obtain ⟨GA1, gcap1, hvb, -, -, -⟩ := hn.open_
   subst hvb
   have hb' := hb.alloc hb.size (.cells #[.slice GA1 t1.length gcap1] 34)
   have hr2 := HL.out.r2.lt
   have HLT1 := hid (Nat.lt_of_lt_of_le HL.out.r2.lt hb.size)
   replace HL := hid (HL.out.on hb')
   have HN1 := hid ((hn.keep ((Keeps.refl _ _).alloc (.cells #[.slice GA1 t1.length gcap1] 34))).mono (Z' := fun b => w.heap.size + 1 + 1 + 1 + 1 < b) fun b h => Nat.lt_of_lt_of_le hr2 (h.elim False.elim id))
   have HX1 := hid (Blk.new wb 34 #[.slice GA1 t1.length gcap1])
   have HG1 := hid hgn
   clear hb hb' hn hgn hr2 f0 f1 f2 f3 f4 fl d0 dl HB
   go_upto_region 4 with fail
   generalize wb.alloc (.cells #[.slice GA1 t1.length gcap1] 34) = v1 at *
   generalize wb.heap.size = gb1 at *
   have g0 : v1.cell? ⟨w.heap.size + 1, 0, none⟩ = some (.int .i64 g.op) := HL.out.gb.cell 0
   have g1 : v1.cell? ⟨w.heap.size + 1, 1, none⟩ = some (.string g.name) := HL.out.gb.cell 1
   have g2 : v1.cell? ⟨w.heap.size + 1, 2, none⟩ = some (.int .i64 g.cmp) := HL.out.gb.cell 2
   have g3 : v1.cell? ⟨w.heap.size + 1, 3, none⟩ = some (.int .i64 g.num) := HL.out.gb.cell 3
   have g4 : v1.cell? ⟨w.heap.size + 1, 4, none⟩ = some (.slice B g.kids.length bcap) := HL.out.gb.cell 4
   have gl : w.heap.size + 1 < v1.heap.size := HL.out.gb.lt
   have d0 : v1.cell? ⟨w.heap.size + 1 + 1, 0, none⟩ = some (.slice D ds.length dcap) := HL.out.db.cell 0
   have dl : w.heap.size + 1 + 1 < v1.heap.size := HL.out.db.lt
   have HB := hid (build_any Z Z (.slice D ds.length dcap) g _ ds v1 HL.out.gm HL.out.zone HL.out.fs HL.out.zone (by have := small_size H2.out; omega) HL.out.tab)
   generalize hgn : buildS ds g = gn2 at *
   obtain ⟨t2, n2⟩ := gn2
   go_wp2_with fail
   refine HB.out.mono ?_
   rintro e wb ⟨vb, rfl, hn, hb⟩
   obtain ⟨GA2, gcap2, hvb, -, -, -⟩ := hn.open_
   subst hvb
   have hb' := hb.alloc hb.size (.cells #[.slice GA2 t2.length gcap2] 34)
   have hr2 := HL.out.r2.lt
   have HLT2 := hid (Nat.lt_of_lt_of_le HL.out.r2.lt hb.size)
   replace HL := hid (HL.out.on hb')
   replace HN1 := hid (HN1.out.keep (Keeps.of_below hb'))
   replace HX1 := hid (HX1.out.below hb' HX1.out.lt)
   have HN2 := hid ((hn.keep ((Keeps.refl _ _).alloc (.cells #[.slice GA2 t2.length gcap2] 34))).mono (Z' := fun b => w.heap.size + 1 + 1 + 1 + 1 < b) fun b h => Nat.lt_of_lt_of_le hr2 (h.elim False.elim id))
   have HX2 := hid (Blk.new wb 34 #[.slice GA2 t2.length gcap2])
   have HG2 := hid hgn
   clear hb hb' hn hgn hr2 g0 g1 g2 g3 g4 gl d0 dl HB
   go_upto_region 5 with fail
   generalize wb.alloc (.cells #[.slice GA2 t2.length gcap2] 34) = v2 at *
   generalize wb.heap.size = gb2 at *
   have z1 : v2.cell? ⟨w.heap.size + 1 + 1 + 1, 0, none⟩ = some (.slice none 0 0) := HL.out.r1.cell 0
   have zf1 : v2.frozen? ⟨w.heap.size + 1 + 1 + 1, 0, none⟩ = false := HL.out.r1.frozen 0
   have zl1 : w.heap.size + 1 + 1 + 1 < v2.heap.size := HL.out.r1.lt
   have z2 : v2.cell? ⟨w.heap.size + 1 + 1 + 1 + 1, 0, none⟩ = some (.slice none 0 0) := HL.out.r2.cell 0
   have zf2 : v2.frozen? ⟨w.heap.size + 1 + 1 + 1 + 1, 0, none⟩ = false := HL.out.r2.frozen 0
   have zl2 : w.heap.size + 1 + 1 + 1 + 1 < v2.heap.size := HL.out.r2.lt
   have y1 : v2.cell? ⟨gb1, 0, none⟩ = some (.slice GA1 t1.length gcap1) := HX1.out.cell 0
   have yl1 : gb1 < v2.heap.size := HX1.out.lt
   have y2 : v2.cell? ⟨gb2, 0, none⟩ = some (.slice GA2 t2.length gcap2) := HX2.out.cell 0
   have yl2 : gb2 < v2.heap.size := HX2.out.lt
   have h13 : gb1 ≠ w.heap.size + 1 + 1 + 1 := by have := HLT1.out; omega
   have h14 : gb1 ≠ w.heap.size + 1 + 1 + 1 + 1 := by have := HLT1.out; omega
   have h23 : gb2 ≠ w.heap.size + 1 + 1 + 1 := by have := HLT2.out; omega
   have h24 : gb2 ≠ w.heap.size + 1 + 1 + 1 + 1 := by have := HLT2.out; omega
   rcases (by omega : n1 = 0 ∨ n1 ≠ 0) with hp | hp
   ·subst hp
    rcases (by omega : n2 = 0 ∨ n2 ≠ 0) with hq | hq
    ·subst hq
     go_region
     all_goals (go_wp2_with fail)
     have k1 : (((v2.setCell ⟨w.heap.size + 1 + 1 + 1, 0, none⟩ (.slice GA1 t1.length gcap1)).setCell ⟨w.heap.size + 1 + 1 + 1 + 1, 0, none⟩ (.slice GA2 t2.length gcap2)).drew).cell? ⟨w.heap.size + 1 + 1 + 1, 0, none⟩ = some (.slice GA1 t1.length gcap1) := ((HL.out.r1.set_ 0 (.slice GA1 t1.length gcap1)).far (p := ⟨w.heap.size + 1 + 1 + 1 + 1, 0, none⟩) (by show w.heap.size + 1 + 1 + 1 ≠ w.heap.size + 1 + 1 + 1 + 1; omega) (.slice GA2 t2.length gcap2)).cell 0
     have k2 : (((v2.setCell ⟨w.heap.size + 1 + 1 + 1, 0, none⟩ (.slice GA1 t1.length gcap1)).setCell ⟨w.heap.size + 1 + 1 + 1 + 1, 0, none⟩ (.slice GA2 t2.length gcap2)).drew).cell? ⟨w.heap.size + 1 + 1 + 1 + 1, 0, none⟩ = some (.slice GA2 t2.length gcap2) := ((HL.out.r2.far (p := ⟨w.heap.size + 1 + 1 + 1, 0, none⟩) (by show w.heap.size + 1 + 1 + 1 + 1 ≠ w.heap.size + 1 + 1 + 1; omega) (.slice GA1 t1.length gcap1)).set_ 0 (.slice GA2 t2.length gcap2)).cell 0
     have hbb : Below w.heap.size w (((v2.setCell ⟨w.heap.size + 1 + 1 + 1, 0, none⟩ (.slice GA1 t1.length gcap1)).setCell ⟨w.heap.size + 1 + 1 + 1 + 1, 0, none⟩ (.slice GA2 t2.length gcap2)).drew) := ((HL.out.below.setCell (by show w.heap.size ≤ w.heap.size + 1 + 1 + 1; omega) _).setCell (by show w.heap.size ≤ w.heap.size + 1 + 1 + 1 + 1; omega) _).drew
     have hkk : Keeps (fun b => w.heap.size + 1 + 1 + 1 + 1 < b) v2 (((v2.setCell ⟨w.heap.size + 1 + 1 + 1, 0, none⟩ (.slice GA1 t1.length gcap1)).setCell ⟨w.heap.size + 1 + 1 + 1 + 1, 0, none⟩ (.slice GA2 t2.length gcap2)).drew) := (((Keeps.refl _ _).setCell (fun _ (h : w.heap.size + 1 + 1 + 1 + 1 < w.heap.size + 1 + 1 + 1) => by omega) _).setCell (fun _ (h : w.heap.size + 1 + 1 + 1 + 1 < w.heap.size + 1 + 1 + 1 + 1) => by omega) _).drew
     have m1 := (HN1.out.keep hkk).mono (Z' := fun _ => True) fun _ _ => trivial
     have m2 := (HN2.out.keep hkk).mono (Z' := fun _ => True) fun _ _ => trivial
     generalize (((v2.setCell ⟨w.heap.size + 1 + 1 + 1, 0, none⟩ (.slice GA1 t1.length gcap1)).setCell ⟨w.heap.size + 1 + 1 + 1 + 1, 0, none⟩ (.slice GA2 t2.length gcap2)).drew) = wz at *
     exact bodyPost_ret (v := .tuple #[.agg #[.slice GA1 t1.length gcap1], .agg #[.slice GA2 t2.length gcap2], .bool true]) (by simp [results, Tryz.results19, go_sem, k1, k2]) rfl ⟨hbb, Or.inl ⟨H1.out, H2.out, by rw [HG1.out], by rw [HG2.out], GA1, _, gcap1, GA2, _, gcap2, rfl, by rw [HG1.out]; exact m1, by rw [HG2.out]; exact m2⟩⟩
    ·have e2 : (n2 == (0 : Int)) = false := by simpa using hq
     clear hq
     go_region
     all_goals (go_wp2_with fail)
     have k1 : (((v2.setCell ⟨w.heap.size + 1 + 1 + 1, 0, none⟩ (.slice GA1 t1.length gcap1)).setCell ⟨w.heap.size + 1 + 1 + 1 + 1, 0, none⟩ (.slice GA2 t2.length gcap2)).drew).cell? ⟨w.heap.size + 1 + 1 + 1, 0, none⟩ = some (.slice GA1 t1.length gcap1) := ((HL.out.r1.set_ 0 (.slice GA1 t1.length gcap1)).far (p := ⟨w.heap.size + 1 + 1 + 1 + 1, 0, none⟩) (by show w.heap.size + 1 + 1 + 1 ≠ w.heap.size + 1 + 1 + 1 + 1; omega) (.slice GA2 t2.length gcap2)).cell 0
     have k2 : (((v2.setCell ⟨w.heap.size + 1 + 1 + 1, 0, none⟩ (.slice GA1 t1.length gcap1)).setCell ⟨w.heap.size + 1 + 1 + 1 + 1, 0, none⟩ (.slice GA2 t2.length gcap2)).drew).cell? ⟨w.heap.size + 1 + 1 + 1 + 1, 0, none⟩ = some (.slice GA2 t2.length gcap2) := ((HL.out.r2.far (p := ⟨w.heap.size + 1 + 1 + 1, 0, none⟩) (by show w.heap.size + 1 + 1 + 1 + 1 ≠ w.heap.size + 1 + 1 + 1; omega) (.slice GA1 t1.length gcap1)).set_ 0 (.slice GA2 t2.length gcap2)).cell 0
     have hbb : Below w.heap.size w (((v2.setCell ⟨w.heap.size + 1 + 1 + 1, 0, none⟩ (.slice GA1 t1.length gcap1)).setCell ⟨w.heap.size + 1 + 1 + 1 + 1, 0, none⟩ (.slice GA2 t2.length gcap2)).drew) := ((HL.out.below.setCell (by show w.heap.size ≤ w.heap.size + 1 + 1 + 1; omega) _).setCell (by show w.heap.size ≤ w.heap.size + 1 + 1 + 1 + 1; omega) _).drew
     have hkk : Keeps (fun b => w.heap.size + 1 + 1 + 1 + 1 < b) v2 (((v2.setCell ⟨w.heap.size + 1 + 1 + 1, 0, none⟩ (.slice GA1 t1.length gcap1)).setCell ⟨w.heap.size + 1 + 1 + 1 + 1, 0, none⟩ (.slice GA2 t2.length gcap2)).drew) := (((Keeps.refl _ _).setCell (fun _ (h : w.heap.size + 1 + 1 + 1 + 1 < w.heap.size + 1 + 1 + 1) => by omega) _).setCell (fun _ (h : w.heap.size + 1 + 1 + 1 + 1 < w.heap.size + 1 + 1 + 1 + 1) => by omega) _).drew
     have m1 := (HN1.out.keep hkk).mono (Z' := fun _ => True) fun _ _ => trivial
     have m2 := (HN2.out.keep hkk).mono (Z' := fun _ => True) fun _ _ => trivial
     generalize (((v2.setCell ⟨w.heap.size + 1 + 1 + 1, 0, none⟩ (.slice GA1 t1.length gcap1)).setCell ⟨w.heap.size + 1 + 1 + 1 + 1, 0, none⟩ (.slice GA2 t2.length gcap2)).drew) = wz at *
     exact bodyPost_ret (v := .tuple #[.agg #[.slice GA1 t1.length gcap1], .agg #[.slice GA2 t2.length gcap2], .bool false]) (by simp [results, Tryz.results19, go_sem, k1, k2]) rfl ⟨hbb, Or.inr ⟨GA1, _, gcap1, GA2, _, gcap2, rfl⟩⟩
   ·have e1 : (n1 == (0 : Int)) = false := by simpa using hp
    clear hp
    go_region
    all_goals (go_wp2_with fail)
    have k1 : (((v2.setCell ⟨w.heap.size + 1 + 1 + 1, 0, none⟩ (.slice GA1 t1.length gcap1)).setCell ⟨w.heap.size + 1 + 1 + 1 + 1, 0, none⟩ (.slice GA2 t2.length gcap2)).drew).cell? ⟨w.heap.size + 1 + 1 + 1, 0, none⟩ = some (.slice GA1 t1.length gcap1) := ((HL.out.r1.set_ 0 (.slice GA1 t1.length gcap1)).far (p := ⟨w.heap.size + 1 + 1 + 1 + 1, 0, none⟩) (by show w.heap.size + 1 + 1 + 1 ≠ w.heap.size + 1 + 1 + 1 + 1; omega) (.slice GA2 t2.length gcap2)).cell 0
    have k2 : (((v2.setCell ⟨w.heap.size + 1 + 1 + 1, 0, none⟩ (.slice GA1 t1.length gcap1)).setCell ⟨w.heap.size + 1 + 1 + 1 + 1, 0, none⟩ (.slice GA2 t2.length gcap2)).drew).cell? ⟨w.heap.size + 1 + 1 + 1 + 1, 0, none⟩ = some (.slice GA2 t2.length gcap2) := ((HL.out.r2.far (p := ⟨w.heap.size + 1 + 1 + 1, 0, none⟩) (by show w.heap.size + 1 + 1 + 1 + 1 ≠ w.heap.size + 1 + 1 + 1; omega) (.slice GA1 t1.length gcap1)).set_ 0 (.slice GA2 t2.length gcap2)).cell 0
    have hbb : Below w.heap.size w (((v2.setCell ⟨w.heap.size + 1 + 1 + 1, 0, none⟩ (.slice GA1 t1.length gcap1)).setCell ⟨w.heap.size + 1 + 1 + 1 + 1, 0, none⟩ (.slice GA2 t2.length gcap2)).drew) := ((HL.out.below.setCell (by show w.heap.size ≤ w.heap.size + 1 + 1 + 1; omega) _).setCell (by show w.heap.size ≤ w.heap.size + 1 + 1 + 1 + 1; omega) _).drew
    have hkk : Keeps (fun b => w.heap.size + 1 + 1 + 1 + 1 < b) v2 (((v2.setCell ⟨w.heap.size + 1 + 1 + 1, 0, none⟩ (.slice GA1 t1.length gcap1)).setCell ⟨w.heap.size + 1 + 1 + 1 + 1, 0, none⟩ (.slice GA2 t2.length gcap2)).drew) := (((Keeps.refl _ _).setCell (fun _ (h : w.heap.size + 1 + 1 + 1 + 1 < w.heap.size + 1 + 1 + 1) => by omega) _).setCell (fun _ (h : w.heap.size + 1 + 1 + 1 + 1 < w.heap.size + 1 + 1 + 1 + 1) => by omega) _).drew
    have m1 := (HN1.out.keep hkk).mono (Z' := fun _ => True) fun _ _ => trivial
    have m2 := (HN2.out.keep hkk).mono (Z' := fun _ => True) fun _ _ => trivial
    generalize (((v2.setCell ⟨w.heap.size + 1 + 1 + 1, 0, none⟩ (.slice GA1 t1.length gcap1)).setCell ⟨w.heap.size + 1 + 1 + 1 + 1, 0, none⟩ (.slice GA2 t2.length gcap2)).drew) = wz at *
    exact bodyPost_ret (v := .tuple #[.agg #[.slice GA1 t1.length gcap1], .agg #[.slice GA2 t2.length gcap2], .bool false]) (by simp [results, Tryz.results19, go_sem, k1, k2]) rfl ⟨hbb, Or.inr ⟨GA1, _, gcap1, GA2, _, gcap2, rfl⟩⟩
  ·have hs : smallS g ds = false := by simpa using hs
   rw [hs] at HS
   clear hs
   go_wp2_with fail
   refine (HS.out).mono ?_
   rintro e w7 ⟨rfl, hb⟩
   replace HL := hid (HL.out.on hb)
   clear hb g0 g1 g2 g3 g4 gl d0 dl HS
   have z1 : w7.cell? ⟨w.heap.size + 1 + 1 + 1, 0, none⟩ = some (.slice none 0 0) := HL.out.r1.cell 0
   have zf1 : w7.frozen? ⟨w.heap.size + 1 + 1 + 1, 0, none⟩ = false := HL.out.r1.frozen 0
   have zl1 : w.heap.size + 1 + 1 + 1 < w7.heap.size := HL.out.r1.lt
   have z2 : w7.cell? ⟨w.heap.size + 1 + 1 + 1 + 1, 0, none⟩ = some (.slice none 0 0) := HL.out.r2.cell 0
   have zf2 : w7.frozen? ⟨w.heap.size + 1 + 1 + 1 + 1, 0, none⟩ = false := HL.out.r2.frozen 0
   have zl2 : w.heap.size + 1 + 1 + 1 + 1 < w7.heap.size := HL.out.r2.lt
   go_wp2_with fail
   have hn1 : w.heap.size + 1 + 1 + 1 ≠ w.heap.size + 1 + 1 + 1 + 1 := by omega
   have k1 : ((w7.setCell ⟨w.heap.size + 1 + 1 + 1, 0, none⟩ (.slice none 0 0)).setCell ⟨w.heap.size + 1 + 1 + 1 + 1, 0, none⟩ (.slice none 0 0)).cell? ⟨w.heap.size + 1 + 1 + 1, 0, none⟩ = some (.slice none 0 0) := ((HL.out.r1.set_ 0 (.slice none 0 0)).far (p := ⟨w.heap.size + 1 + 1 + 1 + 1, 0, none⟩) hn1 (.slice none 0 0)).cell 0
   have k2 : ((w7.setCell ⟨w.heap.size + 1 + 1 + 1, 0, none⟩ (.slice none 0 0)).setCell ⟨w.heap.size + 1 + 1 + 1 + 1, 0, none⟩ (.slice none 0 0)).cell? ⟨w.heap.size + 1 + 1 + 1 + 1, 0, none⟩ = some (.slice none 0 0) := ((HL.out.r2.far (p := ⟨w.heap.size + 1 + 1 + 1, 0, none⟩) hn1.symm (.slice none 0 0)).set_ 0 (.slice none 0 0)).cell 0
   have hbb : Below w.heap.size w ((w7.setCell ⟨w.heap.size + 1 + 1 + 1, 0, none⟩ (.slice none 0 0)).setCell ⟨w.heap.size + 1 + 1 + 1 + 1, 0, none⟩ (.slice none 0 0)) := (HL.out.below.setCell (by show w.heap.size ≤ w.heap.size + 1 + 1 + 1; omega) _).setCell (by show w.heap.size ≤ w.heap.size + 1 + 1 + 1 + 1; omega) _
   generalize ((w7.setCell ⟨w.heap.size + 1 + 1 + 1, 0, none⟩ (.slice none 0 0)).setCell ⟨w.heap.size + 1 + 1 + 1 + 1, 0, none⟩ (.slice none 0 0)) = wz at *
   exact bodyPost_ret (v := .tuple #[.agg #[.slice none 0 0], .agg #[.slice none 0 0], .bool false]) (by simp [results, Tryz.results19, go_sem, k1, k2]) rfl ⟨hbb, Or.inr ⟨none, 0, 0, none, 0, 0, rfl⟩⟩
 ·have hs : smallS f ds = false := by simpa using hs
  rw [hs] at HS
  clear hs
  go_wp2_with fail
  refine (HS.out).mono ?_
  rintro e w6 ⟨rfl, hb⟩
  replace HL := hid (HL.out.on hb)
  clear hb f0 f1 f2 f3 f4 fl d0 dl HS
  have z1 : w6.cell? ⟨w.heap.size + 1 + 1 + 1, 0, none⟩ = some (.slice none 0 0) := HL.out.r1.cell 0
  have zf1 : w6.frozen? ⟨w.heap.size + 1 + 1 + 1, 0, none⟩ = false := HL.out.r1.frozen 0
  have zl1 : w.heap.size + 1 + 1 + 1 < w6.heap.size := HL.out.r1.lt
  have z2 : w6.cell? ⟨w.heap.size + 1 + 1 + 1 + 1, 0, none⟩ = some (.slice none 0 0) := HL.out.r2.cell 0
  have zf2 : w6.frozen? ⟨w.heap.size + 1 + 1 + 1 + 1, 0, none⟩ = false := HL.out.r2.frozen 0
  have zl2 : w.heap.size + 1 + 1 + 1 + 1 < w6.heap.size := HL.out.r2.lt
  go_wp2_with fail
  have hn1 : w.heap.size + 1 + 1 + 1 ≠ w.heap.size + 1 + 1 + 1 + 1 := by omega
  have k1 : ((w6.setCell ⟨w.heap.size + 1 + 1 + 1, 0, none⟩ (.slice none 0 0)).setCell ⟨w.heap.size + 1 + 1 + 1 + 1, 0, none⟩ (.slice none 0 0)).cell? ⟨w.heap.size + 1 + 1 + 1, 0, none⟩ = some (.slice none 0 0) := ((HL.out.r1.set_ 0 (.slice none 0 0)).far (p := ⟨w.heap.size + 1 + 1 + 1 + 1, 0, none⟩) hn1 (.slice none 0 0)).cell 0
  have k2 : ((w6.setCell ⟨w.heap.size + 1 + 1 + 1, 0, none⟩ (.slice none 0 0)).setCell ⟨w.heap.size + 1 + 1 + 1 + 1, 0, none⟩ (.slice none 0 0)).cell? ⟨w.heap.size + 1 + 1 + 1 + 1, 0, none⟩ = some (.slice none 0 0) := ((HL.out.r2.far (p := ⟨w.heap.size + 1 + 1 + 1, 0, none⟩) hn1.symm (.slice none 0 0)).set_ 0 (.slice none 0 0)).cell 0
  have hbb : Below w.heap.size w ((w6.setCell ⟨w.heap.size + 1 + 1 + 1, 0, none⟩ (.slice none 0 0)).setCell ⟨w.heap.size + 1 + 1 + 1 + 1, 0, none⟩ (.slice none 0 0)) := (HL.out.below.setCell (by show w.heap.size ≤ w.heap.size + 1 + 1 + 1; omega) _).setCell (by show w.heap.size ≤ w.heap.size + 1 + 1 + 1 + 1; omega) _
  generalize ((w6.setCell ⟨w.heap.size + 1 + 1 + 1, 0, none⟩ (.slice none 0 0)).setCell ⟨w.heap.size + 1 + 1 + 1 + 1, 0, none⟩ (.slice none 0 0)) = wz at *
  exact bodyPost_ret (v := .tuple #[.agg #[.slice none 0 0], .agg #[.slice none 0 0], .bool false]) (by simp [results, Tryz.results19, go_sem, k1, k2]) rfl ⟨hbb, Or.inr ⟨none, 0, 0, none, 0, 0, rfl⟩⟩
end Go.Proofs.YtcigjmlileckhaaGreatDoor
