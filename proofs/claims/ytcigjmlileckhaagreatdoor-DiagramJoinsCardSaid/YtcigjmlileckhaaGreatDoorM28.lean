/- Walks of strings.Builder: copyCheck, WriteString, WriteByte. Walk of diagram.spell: the text of a formula. -/
import Derived.Test.YtcigjmlileckhaaGreatDoorProg
import Derived.Test.YtcigjmlileckhaaGreatDoorM0
import Derived.Test.YtcigjmlileckhaaGreatDoorM1
import Derived.WalkSpells
import Derived.WalkLawsBesides
import Derived.Lib.FrozenHead2
import Derived.Lib.OthersKept
import Derived.Test.YtcigjmlileckhaaGreatDoorM27
/- Walks of strings.Builder: copyCheck, WriteString, WriteByte. -/
namespace Go.Proofs.YtcigjmlileckhaaGreatDoor
open Go.RowKit Go.Shelf
set_option maxHeartbeats 1000000 in
set_option maxRecDepth 100000 in
theorem copyCheck_used (b : Nat) (w : World) (h0 : w.cell? ⟨b, 0, none⟩ = some (.pointer (some ⟨b, 0, none⟩))) :
  Calls Tryz.prog 120 #[.pointer (some ⟨b, 0, none⟩)] w fun e w' => e = .returned (.tuple #[]) ∧ w' = w := by
 obtain ⟨j, hj, _⟩ := Option.map_eq_some_iff.1 Tryz.Builder_Extra_169.sizeBuilder
 go_enter Tryz.func120, Tryz.ntmps120
 go_wp2
 rw [Lib.run_neq_ptr_same w _ Tryz.underlying72 hj]
 go_wp2
 go_end0
 exact ⟨rfl, rfl⟩
set_option maxHeartbeats 1000000 in
set_option maxRecDepth 100000 in
theorem copyCheck_fresh (b : Nat) (w : World) (h0 : w.cell? ⟨b, 0, none⟩ = some (.pointer none)) (hsh : w.shape? b = some (75, 2)) (hfz : w.frozen? ⟨b, 0, none⟩ = false) :
  Calls Tryz.prog 120 #[.pointer (some ⟨b, 0, none⟩)] w fun e w' => e = .returned (.tuple #[]) ∧ w' = w.setCell ⟨b, 0, none⟩ (.pointer (some ⟨b, 0, none⟩)) := by
 obtain ⟨j, hj, hjs⟩ := Option.map_eq_some_iff.1 Tryz.Builder_Extra_169.sizeBuilder
 go_enter Tryz.func120, Tryz.ntmps120
 go_wp2
 rw [Lib.run_to_unsafe w ⟨b, 0, none⟩ Tryz.underlying72 Tryz.underlying170 hj (by rw [hjs]; decide) hsh (Nat.zero_lt_succ 1)]
 simp only [Result.andThen]
 rw [Oper.upon_value]
 go_wp2
 rw [run_callFunc_extern Tryz.func141 (by kernel_rfl) (by kernel_rfl) (by kernel_rfl) (e := Extern.AbiNoEscape.same) (by kernel_rfl)]
 rw [Lib.run_noEscape]
 simp only [Result.andThen]
 rw [Oper.upon_value]
 go_wp2
 rw [Lib.run_from_unsafe w ⟨b, 0, none⟩ Tryz.underlying170 Tryz.underlying72 hj hsh Tryz.Builder_Extra_169.liesBuilder]
 simp only [Result.andThen]
 rw [Oper.upon_value]
 go_wp2
 go_end0
 exact ⟨rfl, rfl⟩
theorem copyCheck_any (B b : Nat) (bs : List Value) (w : World) (h : Lib.IsBuilderF 75 5 B b bs w) :
  Calls Tryz.prog 120 #[.pointer (some ⟨b, 0, none⟩)] w fun e w' => e = .returned (.tuple #[]) ∧ (Lib.BuilderAtF 75 5 B b (.pointer (some ⟨b, 0, none⟩)) bs w' ∧ Below B w w' ∧ Lib.OthersKept 5 (some b) w w') := by
 rcases h with h | h
 ·refine (copyCheck_fresh b w h.cell0 h.shape h.frozen0).mono ?_
  rintro e w' ⟨rfl, rfl⟩
  exact ⟨rfl, h.used _, (Below.refl B w).setCell (p := ⟨b, 0, none⟩) h.1 _, (Lib.OthersKept.refl _ _ w).setCell ⟨b, 0, none⟩ rfl _⟩
 ·refine (copyCheck_used b w h.cell0).mono ?_
  rintro e w' ⟨rfl, rfl⟩
  exact ⟨rfl, h, Below.refl B _, Lib.OthersKept.refl _ _ _⟩
set_option maxHeartbeats 2000000 in
set_option maxRecDepth 100000 in
theorem writeString_any (B b : Nat) (bs : List Value) (s : ByteArray) (w : World) (h : Lib.IsBuilderF 75 5 B b bs w) (hlen : bs.length + s.size ≤ 140737488355328) (hBw : B ≤ w.heap.size) :
  Calls Tryz.prog 88 #[.pointer (some ⟨b, 0, none⟩), .string s] w fun e w' => e = .returned (.tuple #[.int .i64 s.size, .nilIface]) ∧ (Lib.BuilderAtF 75 5 B b (.pointer (some ⟨b, 0, none⟩)) (bs ++ Lib.strCells s) w' ∧ Below B w w' ∧ Lib.OthersKept 5 (some b) w w') := by
 have neB5 : ((75 : TypeId) ≠ 5) := by decide
 obtain ⟨i0, hi, hz0, hz1, hz2⟩ := info_parts Tryz.Builder_Extra_169.infoByte
 go_enter Tryz.func88, Tryz.ntmps88
 go_wp2_with fail
 refine (copyCheck_any B b bs _ h).mono ?_
 rintro e w1 ⟨rfl, h1, hb1, hk1⟩
 obtain ⟨hB, v, hbk, hown, hne⟩ := h1
 have c0 : w1.cell? ⟨b, 0, none⟩ = some (.pointer (some ⟨b, 0, none⟩)) := by rw [Lib.cell_of_heap hbk]; rfl
 have c1 : w1.cell? ⟨b, 1, none⟩ = some v := by rw [Lib.cell_of_heap hbk]; rfl
 go_wp2_with (at_builtin; refine Lib.wpList_append_own_stringF _ rfl _ _ 73 9 rfl B 5 i0 Tryz.underlying73 Tryz.underlying9 hi hz0 hz1 hz2 _ _ _ rfl hown s rfl ?c3 ?c4 ?c5 ?_)
 case c3 => unfold maxLen; omega
 case c4 => omega
 case c5 => have := hb1.size; omega
 intro v' w2 hown' hgrow _
 have hlt : b < w1.heap.size := by
  rcases Nat.lt_or_ge b w1.heap.size with h' | h'
  ·exact h'
  ·simp [Array.getElem?_eq_none h'] at hbk
 have hb2 : w2.heap[b]? = some (.cells #[.pointer (some ⟨b, 0, none⟩), v] 75 (0, 0)) := by
  rw [hgrow.block b hlt (fun e => hne e.symm)]
  exact hbk
 have d0 : w2.cell? ⟨b, 0, none⟩ = some (.pointer (some ⟨b, 0, none⟩)) := by rw [Lib.cell_of_heap hb2]; rfl
 have d1 : w2.cell? ⟨b, 1, none⟩ = some v := by rw [Lib.cell_of_heap hb2]; rfl
 have f1 : w2.frozen? ⟨b, 1, none⟩ = false := Lib.frozen_of_heap hb2 1
 obtain ⟨ao, n', cap, rfl⟩ : ∃ ao n' cap, v' = .slice ao n' cap := by
  rcases hown'.2 with ⟨hv, _⟩ | ⟨g, cap, cur, fz, hv, _⟩
  ·exact ⟨_, _, _, hv⟩
  ·exact ⟨_, _, _, hv⟩
 go_wp2
 go_ret2
 refine ⟨rfl, ?_, ?_, (hk1.grown hgrow (Lib.ownsRowF_kind hown)).setCell ⟨b, 1, none⟩ rfl _⟩
 ·exact Lib.BuilderAtF.put (T := 75) (e := 5) hB hb2 (bs' := bs ++ Lib.strCells s) (by simpa [Lib.strCells_length] using hown') neB5
 ·exact (hb1.grown hgrow (by have := hb1.size; omega) (fun k hk => (hown.lt k hk).1)).setCell (p := ⟨b, 1, none⟩) hB _
set_option maxHeartbeats 2000000 in
set_option maxRecDepth 100000 in
theorem writeByte_any (B b : Nat) (bs : List Value) (c : Int) (w : World) (h : Lib.IsBuilderF 75 5 B b bs w) (hlen : bs.length + 1 ≤ 140737488355328) (hBw : B ≤ w.heap.size) :
  Calls Tryz.prog 89 #[.pointer (some ⟨b, 0, none⟩), .int .u8 c] w fun e w' => e = .returned .nilIface ∧ (Lib.BuilderAtF 75 5 B b (.pointer (some ⟨b, 0, none⟩)) (bs ++ [.int .u8 c]) w' ∧ Below B w w' ∧ Lib.OthersKept 5 (some b) w w') := by
 have neB5 : ((75 : TypeId) ≠ 5) := by decide
 obtain ⟨i0, hi, hz0, hz1, hz2⟩ := info_parts Tryz.Builder_Extra_169.infoByte
 go_enter Tryz.func89, Tryz.ntmps89
 go_wp2_with fail
 refine (copyCheck_any B b bs _ h).mono ?_
 rintro e w1 ⟨rfl, h1, hb1, hk1⟩
 obtain ⟨hB, v, hbk, hown, hne⟩ := h1
 have c0 : w1.cell? ⟨b, 0, none⟩ = some (.pointer (some ⟨b, 0, none⟩)) := by rw [Lib.cell_of_heap hbk]; rfl
 have c1 : w1.cell? ⟨b, 1, none⟩ = some v := by rw [Lib.cell_of_heap hbk]; rfl
 go_wp2_with (at_builtin; refine wpList_append_ownF _ rfl _ _ 73 rfl B 5 i0 (.int .u8 0) 1 1 Tryz.underlying73 hi hz0 hz1 hz2 rfl (by decide) _ _ _ rfl (hown.alloc _) ⟨w1.heap.size, 0, none⟩ 1 1 [.int .u8 c] rfl rfl ?c1 ?c2 ?c3 ?c4 ?c5 ?_)
 case c1 =>
  intro j u hj
  match j, hj with
  | 0, hj => simp at hj; subst hj; simp [Addr.add]
 case c2 => intro u hu; simp at hu; subst hu; rfl
 case c3 => unfold maxLen; omega
 case c4 => omega
 case c5 => have := hb1.size; simp; omega
 intro v' w2 hown' hgrow _
 have hlt : b < w1.heap.size := by
  rcases Nat.lt_or_ge b w1.heap.size with h' | h'
  ·exact h'
  ·simp [Array.getElem?_eq_none h'] at hbk
 have hb2 : w2.heap[b]? = some (.cells #[.pointer (some ⟨b, 0, none⟩), v] 75 (0, 0)) := by
  rw [hgrow.block b (by simp; omega) (fun e => hne e.symm), Lib.alloc_old w1 _ b hlt]
  exact hbk
 have d0 : w2.cell? ⟨b, 0, none⟩ = some (.pointer (some ⟨b, 0, none⟩)) := by rw [Lib.cell_of_heap hb2]; rfl
 have d1 : w2.cell? ⟨b, 1, none⟩ = some v := by rw [Lib.cell_of_heap hb2]; rfl
 have f1 : w2.frozen? ⟨b, 1, none⟩ = false := Lib.frozen_of_heap hb2 1
 obtain ⟨g, cap, rfl⟩ : ∃ g cap, v' = .slice (some ⟨g, 0, none⟩) (bs.length + 1) cap := by
  rcases hown'.2 with ⟨_, h0⟩ | ⟨g, cap, cur, fz, hv, _⟩
  ·omega
  ·exact ⟨g, cap, hv⟩
 go_wp2
 go_ret
 refine ⟨rfl, ?_, ?_, ((hk1.alloc _).grown hgrow (Lib.ownsRowF_kind (hown.alloc _))).setCell ⟨b, 1, none⟩ rfl _⟩
 ·exact Lib.BuilderAtF.put (T := 75) (e := 5) hB hb2 (bs' := bs ++ [.int .u8 c]) (by simpa using hown') neB5
 ·exact ((hb1.alloc (by have := hb1.size; omega) _).grown hgrow (by have := hb1.size; simp; omega) (fun k hk => (hown.lt k hk).1)).setCell (p := ⟨b, 1, none⟩) hB _
end Go.Proofs.YtcigjmlileckhaaGreatDoor
/- Walk of diagram.spell: the text of a formula. -/
namespace Go.Proofs.YtcigjmlileckhaaGreatDoor
open Go.RowKit Go.Shelf
theorem Tryz.egSpell : ∀ args w, (callFunc 41 args).run Tryz.prog w = .ok (.enter 41 args) w := enters_of Tryz.func41 (by kernel_rfl) rfl
abbrev IsB (B b : Nat) (bs : List Value) (w : World) : Prop := Lib.IsBuilderF 75 5 B b bs w
theorem atF_below {T e : TypeId} {B b : Nat} {p : Value} {bs : List Value} {w w' : World} (h : Lib.BuilderAtF T e B b p bs w) (hb : Below w.heap.size w w') : Lib.BuilderAtF T e B b p bs w' := by
 obtain ⟨h1, v, h2, h3, h4⟩ := h
 refine ⟨h1, v, (hb.block b (lt_of_block h2)).trans h2, ⟨h3.1, ?_⟩, h4⟩
 rcases h3.2 with h | ⟨g, cap, cur, fz, e1, e2, e3, e4⟩
 ·exact Or.inl h
 ·exact Or.inr ⟨g, cap, cur, fz, e1, e2, (hb.block g (lt_of_block e3)).trans e3, e4⟩
theorem isB_below {B b : Nat} {bs : List Value} {w w' : World} (h : IsB B b bs w) (hb : Below w.heap.size w w') : IsB B b bs w' := h.imp (atF_below · hb) (atF_below · hb)
theorem others_below {e : TypeId} {b : Option Nat} {w w' : World} (hb : Below w.heap.size w w') : Lib.OthersKept e b w w' := fun k _o h _ _ => (hb.block k (lt_of_block h)).trans h
theorem grow_below' (w : World) (k : Nat) (os : Array Obj) : Below w.heap.size w (Sort.grow (w.drewN k) os) := below_grown w k os
/-- strconv.Itoa, told by what it keeps. -/
theorem itoa_any {B : Nat} (n : Int) (w : World) (hn : I64 n) (ht : TabB B w) : Calls Tryz.prog 42 #[.int .i64 n] w fun e w' => e = .returned (.string ⟨(Lib.itoa n).toArray⟩) ∧ Below w.heap.size w w' := by
 refine (Tryz.strconv_Itoa n hn.1 hn.2 w ht.here).mono ?_
 rintro e w' ⟨rfl, k, os, rfl⟩
 exact ⟨rfl, grow_below' w k os⟩
/-- The text of a formula ahead of its kids. -/
def headT (f : Fm) : List UInt8 := Lib.itoa f.op ++ f.name.data.toList ++ 44 :: (Lib.itoa f.cmp ++ 44 :: (Lib.itoa f.num ++ [40]))
theorem spellT_eq (f : Fm) : spellT f = headT f ++ (spellsT f.kids ++ [41]) := by
 obtain ⟨op, nm, cm, nu, kids⟩ := f
 unfold spellT headT Fm.op Fm.name Fm.cmp Fm.num Fm.kids
 simp
theorem spellsT_take : ∀ (l : List Fm) (k : Nat) (hk : k < l.length), spellsT (l.take (k + 1)) = spellsT (l.take k) ++ spellT l[k]
 | a :: r, 0, _ => by simp [spellsT]
 | a :: r, k + 1, hk => by
  have := spellsT_take r k (by simpa using hk)
  simp only [List.take_succ_cons, spellsT, List.getElem_cons_succ]
  rw [this, List.append_assoc]
theorem spellsT_le : ∀ (l : List Fm) (k : Nat), (spellsT (l.take k)).length ≤ (spellsT l).length
 | [], k => by simp
 | a :: r, 0 => by simp [spellsT]
 | a :: r, k + 1 => by
  have := spellsT_le r k
  simp only [List.take_succ_cons, spellsT, List.length_append]
  omega
set_option maxRecDepth 100000 in
set_option maxHeartbeats 4000000 in
theorem spell_any (B b : Nat) (Z : Zone) (hZ : ∀ z, Z z → z < B) : ∀ (m : Nat) (f : Fm), fsize f ≤ m → ∀ (cs : List Value) (bs : List Value) (w : World), FmR Z w f cs → fsize f ≤ 4000000 → bs.length + (spellT f).length ≤ 140737488355328 → TabB B w → IsB B b bs w → B ≤ w.heap.size →
  Calls Tryz.prog 41 #[.pointer (some ⟨b, 0, none⟩), .agg cs.toArray] w fun e w' =>
   e = .returned (.tuple #[]) ∧ IsB B b (bs ++ Lib.byteCells (spellT f)) w' ∧ Below B w w' ∧ Lib.OthersKept 5 (some b) w w' := by
 intro m
 induction m with
 | zero => intro f hm; have := fsize_pos f; omega
 | succ m ih =>
 intro f hm cs bs w hf hlen hbl htab hB hBw
 have eg := Tryz.egSpell
 have IH := hid ih
 clear ih
 have HSP := hid (spellT_eq f)
 obtain ⟨op, nm, cm, nu, kids⟩ := f
 unfold FmR at hf
 obtain ⟨hop, hnm, hcm, hnu, A, cap, rfl, hcap, _, hkb, hks⟩ := hf
 have HS := hid (FmsR.seq hks)
 clear hks
 have hfs := fsize_eq (.mk op nm cm nu kids)
 simp only [Fm.kids] at hfs
 have hkl : kids.length ≤ 4000000 := by have h1 := length_le_fsizes kids; omega
 have HL := hid (And.intro hm (And.intro hlen (And.intro hfs hbl)))
 obtain ⟨t1, ht1, hs1⟩ : ∃ t : ByteArray, t = ⟨(Lib.itoa op).toArray⟩ ∧ t.size ≤ 30 := ⟨_, rfl, by have := Lib.itoa_length_le op hop.1 hop.2; simp [ByteArray.size]; omega⟩
 obtain ⟨t2, ht2, hs2⟩ : ∃ t : ByteArray, t = ⟨(Lib.itoa cm).toArray⟩ ∧ t.size ≤ 30 := ⟨_, rfl, by have := Lib.itoa_length_le cm hcm.1 hcm.2; simp [ByteArray.size]; omega⟩
 obtain ⟨t3, ht3, hs3⟩ : ∃ t : ByteArray, t = ⟨(Lib.itoa nu).toArray⟩ ∧ t.size ≤ 30 := ⟨_, rfl, by have := Lib.itoa_length_le nu hnu.1 hnu.2; simp [ByteArray.size]; omega⟩
 have HI1 := hid (fun W hb => itoa_any op W hop (htab.on (w' := W) hb))
 have HI2 := hid (fun W hb => itoa_any cm W hcm (htab.on (w' := W) hb))
 have HI3 := hid (fun W hb => itoa_any nu W hnu (htab.on (w' := W) hb))
 rw [← ht1] at HI1
 rw [← ht2] at HI2
 rw [← ht3] at HI3
 have HTT := hid (And.intro ht1 (And.intro ht2 ht3))
 have hcat : ∀ (x y : ByteArray), x.size + y.size ≤ 9223372036854775807 → ∃ u : ByteArray, u = x ++ y ∧ ∀ W, (Op.stringOp .add x y).run Tryz.prog W = .ok (.string u) W := fun x y h => ⟨_, rfl, fun W => run_string_add_sum W x y h⟩
 obtain ⟨u1, hu1, e1⟩ := hcat t1 nm (by omega)
 obtain ⟨u2, hu2, e2⟩ := hcat u1 ⟨#[44]⟩ (by rw [hu1, ByteArray.size_append]; show _ + 1 ≤ _; omega)
 obtain ⟨u3, hu3, e3⟩ := hcat u2 t2 (by rw [hu2, hu1]; simp only [ByteArray.size_append]; show _ + _ + 1 + _ ≤ _; omega)
 obtain ⟨u4, hu4, e4⟩ := hcat u3 ⟨#[44]⟩ (by rw [hu3, hu2, hu1]; simp only [ByteArray.size_append]; show _ + _ + 1 + _ + 1 ≤ _; omega)
 obtain ⟨u5, hu5, e5⟩ := hcat u4 t3 (by rw [hu4, hu3, hu2, hu1]; simp only [ByteArray.size_append]; show _ + _ + 1 + _ + 1 + _ ≤ _; omega)
 obtain ⟨u6, hu6, e6⟩ := hcat u5 ⟨#[40]⟩ (by rw [hu5, hu4, hu3, hu2, hu1]; simp only [ByteArray.size_append]; show _ + _ + 1 + _ + 1 + _ + 1 ≤ _; omega)
 have HU := hid (show Lib.strCells u6 = Lib.byteCells (headT (.mk op nm cm nu kids)) from by
  rw [hu6, hu5, hu4, hu3, hu2, hu1, ht1, ht2, ht3]
  unfold Lib.strCells Lib.byteCells headT
  simp [Fm.op, Fm.name, Fm.cmp, Fm.num])
 clear ht1 ht2 ht3 hu1 hu2 hu3 hu4 hu5 hu6 hcat
 have HW := hid (fun W s h1 (h2 : B ≤ W.heap.size) (h : IsB B b bs W) => writeString_any B b bs s W h h1 h2)
 have HTAB := hid htab
 have HB := hid hB
 clear hm hlen hfs htab hB hop hcm hnu hbl
 go_enter Tryz.func41, Tryz.ntmps41
 go_wp2
 have HSZ := hid (show bs.length + u6.size ≤ 140737488355328 from by
  have h1 := HL.out.2.2.2
  have h2 := congrArg List.length HU.out
  rw [Lib.strCells_length, Lib.byteCells_length] at h2
  rw [HSP.out, List.length_append] at h1
  omega)
 have hbl := HB.out.elim Lib.BuilderAtF.lt Lib.BuilderAtF.lt
 go_region_held3 (fun w' => w'.cell? ⟨w.heap.size, 0, none⟩ = some (.int .i64 op) ∧ w'.cell? ⟨w.heap.size, 1, none⟩ = some (.string nm) ∧ w'.cell? ⟨w.heap.size, 2, none⟩ = some (.int .i64 cm) ∧ w'.cell? ⟨w.heap.size, 3, none⟩ = some (.int .i64 nu)) (first | exact ⟨p0, p1, p2, p3⟩ | exact ⟨q0, q1, q2, q3⟩ | (refine ⟨?_, ?_, ?_, ?_⟩ <;> go_keep))
  (first
   | (go_at_call 42; refine (HI1.out _ ((below1 w _).drew.mono hBw)).mono ?_; rintro e w1 ⟨rfl, hb1⟩; have hx1 := (Blk.new w 24 #[.int .i64 op, .string nm, .int .i64 cm, .int .i64 nu, .slice A kids.length cap]).drew.below hb1 (by simp); have hw1 := HBEL_trans (below1 w _).drew hb1 (by simp); have q0 : w1.cell? ⟨w.heap.size, 0, none⟩ = some (.int .i64 op) := hx1.cell 0; have q1 : w1.cell? ⟨w.heap.size, 1, none⟩ = some (.string nm) := hx1.cell 1; have q2 : w1.cell? ⟨w.heap.size, 2, none⟩ = some (.int .i64 cm) := hx1.cell 2; have q3 : w1.cell? ⟨w.heap.size, 3, none⟩ = some (.int .i64 nu) := hx1.cell 3)
   | (go_at_call 42; refine (HI2.out _ (hw1.mono hBw)).mono ?_; rintro e w2 ⟨rfl, hb2⟩; have hx2 := hx1.below hb2 hx1.lt; have hw2 := HBEL_trans hw1 hb2; have q0 : w2.cell? ⟨w.heap.size, 0, none⟩ = some (.int .i64 op) := hx2.cell 0; have q1 : w2.cell? ⟨w.heap.size, 1, none⟩ = some (.string nm) := hx2.cell 1; have q2 : w2.cell? ⟨w.heap.size, 2, none⟩ = some (.int .i64 cm) := hx2.cell 2; have q3 : w2.cell? ⟨w.heap.size, 3, none⟩ = some (.int .i64 nu) := hx2.cell 3)
   | (go_at_call 42; refine (HI3.out _ (hw2.mono hBw)).mono ?_; rintro e w3 ⟨rfl, hb3⟩; have hx3 := hx2.below hb3 hx2.lt; have hw3 := HBEL_trans hw2 hb3; have q0 : w3.cell? ⟨w.heap.size, 0, none⟩ = some (.int .i64 op) := hx3.cell 0; have q1 : w3.cell? ⟨w.heap.size, 1, none⟩ = some (.string nm) := hx3.cell 1; have q2 : w3.cell? ⟨w.heap.size, 2, none⟩ = some (.int .i64 cm) := hx3.cell 2; have q3 : w3.cell? ⟨w.heap.size, 3, none⟩ = some (.int .i64 nu) := hx3.cell 3)
   | (go_at_call 88; refine (HW.out _ _ HSZ.out (Nat.le_trans hBw hw3.size) (isB_below HB.out hw3)).mono ?_; rintro e w4 ⟨rfl, hB4, hb4, ho4⟩; have hx4 : Blk w4 w.heap.size 24 _ := ho4 w.heap.size _ hx3 (by intro e; injection e with e; omega) (by intro c fz e; injection e with _ e; exact absurd e (by decide)); have p0 : w4.cell? ⟨w.heap.size, 0, none⟩ = some (.int .i64 op) := hx4.cell 0; have p1 : w4.cell? ⟨w.heap.size, 1, none⟩ = some (.string nm) := hx4.cell 1; have p2 : w4.cell? ⟨w.heap.size, 2, none⟩ = some (.int .i64 cm) := hx4.cell 2; have p3 : w4.cell? ⟨w.heap.size, 3, none⟩ = some (.int .i64 nu) := hx4.cell 3))
 rw [HU.out] at hB4
 have c4 : w4.cell? ⟨w.heap.size, 4, none⟩ = some (.slice A kids.length cap) := hx4.cell 4
 have c4l := hx4.lt
 have hbw4 : Below B w w4 := (hw3.mono hBw).trans hb4
 have hok4 : Lib.OthersKept 5 (some b) w w4 := (others_below hw3).trans ho4
 have HB4 := hid (show IsB B b (bs ++ Lib.byteCells (headT (.mk op nm cm nu kids))) w4 from Or.inr hB4)
 have HK4 := hid (And.intro hbw4 hok4)
 clear hB4 hb4 ho4 hx4 hw3 hb3 hx3 hw2 hb2 hx2 hw1 hb1 hx1 p0 p1 p2 p3 q0 q1 q2 q3 hbw4 hok4 e1 e2 e3 e4 e5 e6
 go_wp2
 go_loopw [28] (fun i wr => ∃ k : Nat, k ≤ kids.length ∧ i = .int .i64 k ∧ IsB B b (bs ++ Lib.byteCells (headT (.mk op nm cm nu kids) ++ spellsT (kids.take k))) wr ∧ Below B w wr ∧ Lib.OthersKept 5 (some b) w wr) (fun i _ => kids.length - (intOf i).toNat)
 case atStart => exact ⟨0, Nat.zero_le _, rfl, by simpa [spellsT] using HB4.out, HK4.out.1, HK4.out.2⟩
 case round =>
  clear c4 c4l
  obtain ⟨k, hk, rfl, hO, hkp, hok⟩ := hrel
  by_cases hlt : k < kids.length
  ·obtain ⟨b', off, cs, rfl, hz, hcs, hfk⟩ := HS.out.at_ hlt
   have hkz : Keeps Z w wr := Keeps.of_below_lt hkp (fun z _ hz => hZ z hz)
   have hfk' := FmR.keep hkz _ _ hfk
   have HF := hid hfk'
   obtain ⟨A', cap', rfl⟩ := FmR.form hfk
   have hle := fsize_lt hlt
   have hbnd : fsize kids[k] ≤ 4000000 := by have := HL.out; omega
   have hm2 := HL.out.1
   have hfs := HL.out.2.2.1
   have htk := spellsT_take kids k hlt
   have hln : (bs ++ Lib.byteCells (headT (.mk op nm cm nu kids) ++ spellsT (kids.take k))).length + (spellT kids[k]).length ≤ 140737488355328 := by
    have h1 := HL.out.2.2.2
    have h2 := spellsT_le kids (k + 1)
    rw [htk] at h2
    rw [HSP.out] at h1
    simp only [List.length_append, Lib.byteCells_length] at h1 h2 ⊢
    simp only [Fm.kids] at h1
    omega
   clear hfk hfk'
   obtain ⟨c0, c1, c2, c3, c4⟩ := five_cells (fun j u hu => hkz.cell (p := ⟨b', off + k * 5 + j, none⟩) hz (hcs j u hu))
   clear hcs
   have cl := lt_of_cell c0
   have hBr := Nat.le_trans hBw hkp.size
   have HCALL := hid (fun o => IH.out kids[k] (by omega) _ _ (wr.alloc o) (FmR.keep ((Keeps.refl Z wr).alloc o) _ _ HF.out) hbnd hln (HTAB.out.on (hkp.alloc hBr o)) (hO.alloc o) (by simp; omega))
   have HTK := hid (show bs ++ Lib.byteCells (headT (.mk op nm cm nu kids) ++ spellsT (kids.take (k + 1))) = bs ++ Lib.byteCells (headT (.mk op nm cm nu kids) ++ spellsT (kids.take k)) ++ Lib.byteCells (spellT kids[k]) from by rw [htk]; simp [Lib.byteCells])
   have HKP := hid (And.intro hkp hok)
   have HBR := hid hBr
   clear hO hkp hok hkz hbnd hle hm2 hfs hln htk hBr
   generalize kids[k] = g at *
   go_wp2_with fail
   refine (HCALL.out _).mono ?_
   rintro e w5 ⟨rfl, hO1, hk1, hok1⟩
   have H9 := hid (And.intro hO1 (And.intro ((HKP.out.1.alloc HBR.out _).trans hk1) ((HKP.out.2.trans (others_below (below1 wr _))).trans hok1)))
   clear hO1 hk1 hok1
   go_wp2
   go_roundw
   case rel => exact ⟨k + 1, by omega, by go_num, by rw [HTK.out]; exact H9.out.1, H9.out.2.1, H9.out.2.2⟩
   case measure => simp [intOf]; omega
  ·obtain rfl : k = kids.length := by omega
   rw [List.take_length] at hO
   have hln : (bs ++ Lib.byteCells (headT (.mk op nm cm nu kids) ++ spellsT kids)).length + 1 ≤ 140737488355328 := by
    have h1 := HL.out.2.2.2
    rw [HSP.out] at h1
    simp only [List.length_append, Lib.byteCells_length, List.length_cons, List.length_nil] at h1 ⊢
    simp only [Fm.kids] at h1
    omega
   have HWB := hid (writeByte_any B b _ 41 wr hO hln (Nat.le_trans hBw hkp.size))
   have HKP := hid (And.intro hkp hok)
   clear hO hkp hok hln
   go_wp2_with fail
   refine HWB.out.mono ?_
   rintro e w5 ⟨rfl, hB5, hb5, ho5⟩
   have HP := hid (show IsB B b (bs ++ Lib.byteCells (spellT (.mk op nm cm nu kids))) w5 ∧ Below B w w5 ∧ Lib.OthersKept 5 (some b) w w5 from by
    refine ⟨Or.inr ?_, HKP.out.1.trans hb5, HKP.out.2.trans ho5⟩
    have e : bs ++ Lib.byteCells (spellT (.mk op nm cm nu kids)) = bs ++ Lib.byteCells (headT (.mk op nm cm nu kids) ++ spellsT kids) ++ [.int .u8 41] := by rw [HSP.out]; simp [Lib.byteCells, Fm.kids]
    rw [e]; exact hB5)
   clear hB5 hb5 ho5
   go_wp2
   go_end0
   exact ⟨rfl, HP.out⟩
end Go.Proofs.YtcigjmlileckhaaGreatDoor
