/- Texts NG. -/
import Derived.Test.YtimmfbnjndndlaaGreatDoorM23
import Derived.Test.YtimmfbnjndndlaaGreatDoorM11
set_option linter.all false
namespace Go.Proofs.YtimmfbnjndndlaaGreatDoor
open Go.RowKit
set_option maxHeartbeats 8000000
set_option maxRecDepth 100000
theorem digs_one{x:Nat}(h:0<x)(h2:x<1000000000):digs x=[x]:=by
 rw[digs_pos (by omega),Nat.mod_eq_of_lt h2,Nat.div_eq_of_lt h2,digs_zero]
theorem one_limb(w:World)(t:TypeId){x:Nat}(h:0<x)(h2:x<1000000000):NumS (λb=>b=w.heap.size) (w.alloc (.cells #[.int .u64 (x:Int)] t)) (.slice (some ⟨w.heap.size,0,none⟩) 1 1) x:=by
 refine NumS.of (l:=[x]) ?_ (digs_one h h2).symm;exact lims_blk (t:=t) (l:=[x]) (Blk.new w t #[.int .u64 (x:Int)]) rfl (Limbs.nil.cons h2) (Nat.le_refl _) (by simp) (by simp)
theorem sgn_pos{a b:Nat}:decide (sgnZ (a:Int) (b:Int)>0)=decide (b<a):=by
 rcases Nat.lt_trichotomy a b with h|h|h
 ·rw[sgn_lt (by omega),decide_eq_false (by omega:¬b<a)];rfl
 ·subst h;rw[sgn_eq,decide_eq_false (Nat.lt_irrefl _)];rfl
 ·rw[sgn_gt (by omega),decide_eq_true h];rfl
theorem divSel_any(Z Z':Zone)(Bm Br:Nat)(vm vr:Value)(m R k:Nat)(W:World)(hBm:W.cell? ⟨Bm,0,none⟩=some vm)(hBr:W.cell? ⟨Br,0,none⟩=some vr)(hm:NumS Z W vm m)(hr:NumS Z' W vr R)
  (h1:(digs m).length ≤500000)(h2:(digs R).length ≤500000)(hk:k<999999999)(hml:(digs (m*(k+1))).length ≤1000000):
  Calls Tryz.prog 129 #[.int .i64 (k:Int),.pointer (some ⟨Bm,0,none⟩),.pointer (some ⟨Br,0,none⟩)] W λe w'=>e= .returned (.bool (decide (R<m*(k+1))))∧Below W.heap.size W w':=by
 have hSP:= @sgn_pos (m*(k+1)) R;obtain⟨q,hq⟩:∃q,m*(k+1)=q:=⟨_,rfl⟩;rw[hq]at hSP hml;rw[hq];have HM:=hid (And.intro hm hq);have HR:=hid hr;have hbm:=lt_of_cell hBm;have hbr:=lt_of_cell hBr;have hw1:IntKind.i64.wrap ((k:Int)+1)=(k:Int)+1:=by rw[IntKind.wrap_i64];omega
 have hw2:IntKind.u64.wrap ((k:Int)+1)=(k:Int)+1:=by rw[IntKind.wrap_u64];omega
 have HL:=hid (And.intro h1 (And.intro h2 hml));clear hm hr hq h1 h2 hml;go_enter Tryz.func129,Tryz.ntmps129
 go_wp2;refine wp_region_S 9 (λV=>V.cell? ⟨Bm,0,none⟩=some vm∧V.cell? ⟨Br,0,none⟩=some vr) (by kernel_rfl) ?_;have hB0:Below W.heap.size W W.drew:=(Below.refl _ _).drew;generalize W.drew=x0 at*;have hS:(λV:World=>V.cell? ⟨Bm,0,none⟩=some vm∧V.cell? ⟨Br,0,none⟩=some vr) x0:=⟨brd hB0 hBm hbm,brd hB0 hBr hbr⟩
 (refine tkS 0 ?_ hS ?_ ?_;rotate_left;intro w hSw;obtain⟨h1,h2⟩:=hSw;go_simp;(try with_reducible rfl);simp only[nr])
 (refine tkZ 1 ?_ hS ?_ ?_;rotate_left;intro w;go_simp;(try with_reducible rfl);simp only[nr])
 (refine tkZ 2 ?_ hS ?_ ?_;rotate_left;intro w;go_simp;(try with_reducible rfl);simp only[nr])
 (refine tkZ 3 ?_ hS ?_ ?_;rotate_left;intro w;go_simp;(try with_reducible rfl);simp only[nr])
 (refine tkS 6 ?_ hS ?_ ?_;rotate_left;intro w hSw;obtain⟨h1,h2⟩:=hSw;go_simp;(try with_reducible rfl);simp only[nr])
 clear hS;refine wS1 4 (λK hK=> ?_);go_wp2_with fail
 have hB1:Below W.heap.size W (x0.alloc (.cells #[.int .u64 ((k:Int)+1)] 184)):=hB0.alloc hB0.size _;refine hK _ _ (Or.inr ⟨brd hB1 hBm hbm,brd hB1 hBr hbr⟩) ?_;clear hK K
 (try simp only[nr])
 have HC:=hid (show NumS (λb=>b=x0.heap.size) (x0.alloc (.cells #[.int .u64 ((k:Int)+1)] 184)) (.slice (some ⟨x0.heap.size,0,none⟩) 1 1) (k+1) from one_limb (x:=k+1) x0 _ (by omega) (by omega));have hlc:(digs (k+1)).length ≤1000000:=by rw[digs_one (by omega) (by omega)];simp
 generalize hx1:x0.alloc (.cells #[.int .u64 ((k:Int)+1)] 184)=x1 at*;have hs1:x1.heap.size=x0.heap.size+1:=by rw[<-hx1];simp
 have HMU:=hid (mul_any Z (λb=>b=x0.heap.size) vm _ m (k+1) x1 (HM.out.1.keep (.of_below hB1)) HC.out (by have:=HL.out.1;omega) hlc);rw[HM.out.2]at HMU;clear hx1 hlc;refine wS1 5 (λK hK=> ?_);go_wp2_with fail
 refine HMU.out.mono ?_;rintro e x2 ⟨u,rfl,hu,hb⟩;have hB2:Below W.heap.size W x2:=hB1.trans (hb.mono hB1.size);refine hK _ _ (Or.inr ⟨brd hB2 hBm hbm,brd hB2 hBr hbr⟩) ?_;clear hK K hb
 (try simp only[nr])
 have HCO:=hid (ncompare_any _ Z' u vr q R x2 hu (HR.out.keep (.of_below hB2)) HL.out.2.2 (by have:=HL.out.2.1;omega));clear hu HMU HC;refine wS1 7 (λK hK=> ?_);go_wp2_with fail
 refine HCO.out.mono ?_;rintro e x3 ⟨rfl,hb⟩;have hB3:Below W.heap.size W x3:=hB2.trans (hb.mono hB2.size);refine hK _ _ (Or.inr ⟨brd hB3 hBm hbm,brd hB3 hBr hbr⟩) ?_;clear hK K hb HCO
 (try simp only[nr])
 generalize sgnZ (q:Int) (R:Int)=s at*;have hS:(λV:World=>V.cell? ⟨Bm,0,none⟩=some vm∧V.cell? ⟨Br,0,none⟩=some vr) x3:=⟨brd hB3 hBm hbm,brd hB3 hBr hbr⟩
 (refine tkZ 8 ?_ hS ?_ ?_;rotate_left;intro w;go_simp;(try with_reducible rfl);simp only[nr])
 refine wS1 9 (λK hK=> ?_);go_wp2_with fail
 refine hK _ _ (Or.inl rfl) ?_;clear hK K
 (try simp only[nr])
 refine wSd ?_ _;go_wp2;go_ret;exact⟨by rw[<-hSP];rfl,hB3⟩
end Go.Proofs.YtimmfbnjndndlaaGreatDoor
