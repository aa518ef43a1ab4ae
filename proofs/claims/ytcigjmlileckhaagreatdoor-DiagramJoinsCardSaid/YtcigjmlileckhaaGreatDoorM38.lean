/- The walk of DiagramMeans. -/
import Derived.Test.YtcigjmlileckhaaGreatDoorM35
import Derived.Test.YtcigjmlileckhaaGreatDoorM37
import Derived.Test.YtcigjmlileckhaaGreatDoorM33
import Derived.Test.YtcigjmlileckhaaGreatDoorM24
import Derived.Test.YtcigjmlileckhaaGreatDoorM14
import Derived.Test.YtcigjmlileckhaaGreatDoorM7
import Derived.Test.YtcigjmlileckhaaGreatDoorM10
/- The walk of DiagramMeans. -/
namespace Go.Proofs.YtcigjmlileckhaaGreatDoor
open Go.RowKit
/-- As wpAnyS_one, for an operation that its guard wants. -/
theorem wpAnyS_oneG {P : Program} {ops : Array Oper} {Q : Exit → Act → World → Prop} {md : Region.Mode} {S : World → Prop} {s i : Nat} {o : Oper} {fuel : Nat} {listed : Array Bool} {a : Act} {w : World} (hr : Region.ready md ops listed = [i]) (ho : ops[i]? = some o) (hg : Region.wanted o (yielded ops a.tmps) = true)
  (h : ∀ K : Act → World → Prop, (∀ a' w', ((listed.setIfInBounds i true).getD s true = true ∨ S w') → wpAnyS P md ops Q S s fuel (listed.setIfInBounds i true) a' w' → K a' w') → Oper.wp P o a w K Q) : wpAnyS P md ops Q S s (fuel + 1) listed a w := by
 refine ⟨fun h0 => (by rw [hr] at h0; cases h0), fun j hj => ?_⟩
 rw [hr] at hj
 simp at hj
 subst hj
 unfold wpOp
 rw [ho]
 simp only
 rw [if_pos hg]
 exact Or.inl (h _ fun a' w' h1 h2 => ⟨h1, h2⟩)
/-- A guarded operation that is not wanted, its slot still unwritten. -/
theorem wpAnyS_skip {P : Program} {ops : Array Oper} {Q : Exit → Act → World → Prop} {md : Region.Mode} {S : World → Prop} {s i : Nat} {oi : Oper} {fuel : Nat} {listed : Array Bool} {a : Act} {w : World} (hi : ops[i]? = some oi)
  (hs : Region.noSelect ops = true) (hf : (Region.free md ops listed i && (Region.ready md ops listed).contains i && (i != s)) = true)
  (hQ : ∀ c a w, Q (.panic c) (a.put oi.dst undef) w → Q (.panic c) a w) (hw : Region.wanted oi (yielded ops a.tmps) = false) (hp : a.put oi.dst undef = a) (hS : listed.getD s true = true ∨ S w)
  (h : wpAnyS P md ops Q S s fuel (listed.setIfInBounds i true) a w) : wpAnyS P md ops Q S s (fuel + 1) listed a w :=
 wpAnyS_take0 hi hs hf hQ (Or.inr ⟨hw, rfl⟩) hS (by rw [hp]; exact h)
theorem build_zero {ds : List FactD} {f : Fm} (h : (buildS ds f).2 = 0) : validDom ds = true ∧ checkS ds f = 0 := by
 unfold buildS at h
 split at h
 ·exact absurd h (by decide)
 ·rename_i hv
  simp only [not_or, Bool.not_eq_false, ne_eq, Decidable.not_not] at hv
  exact hv
theorem small_size {f : Fm} {ds : List FactD} (h : smallS f ds = true) : fsize f ≤ 250 := by
 unfold smallS at h
 simp only [Bool.and_eq_true, decide_eq_true_eq] at h
 exact h.1
/-- The boxes of a law's formula and domain. -/
structure Lw (w0 w : World) (A : Option Addr) (cap : Nat) (D : Option Addr) (dcap : Nat) (f : Fm) (ds : List FactD) (c : List Int) (vc : Value) (Z : Zone) : Prop where
 fb : Blk w w0.heap.size 24 #[.int .i64 f.op, .string f.name, .int .i64 f.cmp, .int .i64 f.num, .slice A f.kids.length cap]
 db : Blk w (w0.heap.size + 1) 27 #[.slice D ds.length dcap]
 fm : FmR Z w f [.int .i64 f.op, .string f.name, .int .i64 f.cmp, .int .i64 f.num, .slice A f.kids.length cap]
 fs : Facts Z w (.slice D ds.length dcap) ds
 ci : Ints Z w vc c
 below : Below w0.heap.size w0 w
 tab : TabB w.heap.size w
 zone : ∀ b, Z b → b < w.heap.size
theorem Lw.on {w0 w w' : World} {A : Option Addr} {cap : Nat} {D : Option Addr} {dcap : Nat} {f : Fm} {ds : List FactD} {c : List Int} {vc : Value} {Z : Zone} (h : Lw w0 w A cap D dcap f ds c vc Z) (hb : Below w.heap.size w w') : Lw w0 w' A cap D dcap f ds c vc Z :=
 ⟨h.fb.below hb h.fb.lt, h.db.below hb h.db.lt, FmR.keep (.of_below hb) _ _ h.fm, h.fs.keep (.of_below hb), h.ci.keep (.of_below hb), h.below.trans (hb.mono h.below.size), (h.tab.on hb).mono hb.size, fun b hz => Nat.lt_of_lt_of_le (h.zone b hz) hb.size⟩
theorem Lw.start {Z : Zone} {f : Fm} {ds : List FactD} {c : List Int} {w : World} {A : Option Addr} {cap : Nat} {D : Option Addr} {dcap : Nat} {vc : Value} (hf : FmR Z w f [.int .i64 f.op, .string f.name, .int .i64 f.cmp, .int .i64 f.num, .slice A f.kids.length cap]) (hd : Facts Z w (.slice D ds.length dcap) ds) (hc : Ints Z w vc c) (hz : ∀ b, Z b → b < w.heap.size) (htab : TabB w.heap.size w) :
  Lw w ((w.alloc (.cells #[.int .i64 f.op, .string f.name, .int .i64 f.cmp, .int .i64 f.num, .slice A f.kids.length cap] 24)).alloc (.cells #[.slice D ds.length dcap] 27)) A cap D dcap f ds c vc Z := by
 have hb2 := (below1 w (.cells #[.int .i64 f.op, .string f.name, .int .i64 f.cmp, .int .i64 f.num, .slice A f.kids.length cap] 24)).alloc (by simp) (.cells #[.slice D ds.length dcap] 27)
 exact ⟨(Blk.new w _ _).alloc _, Blk.new' _ _ _ (by simp), FmR.keep (.of_below hb2) _ _ hf, hd.keep (.of_below hb2), hc.keep (.of_below hb2), hb2, (htab.on hb2).mono hb2.size, fun b h => Nat.lt_of_lt_of_le (hz b h) hb2.size⟩
end Go.Proofs.YtcigjmlileckhaaGreatDoor
