/- Texts W4. -/
import Derived.Test.YtimmfbnjndndlaaGreatDoorM16
import Derived.Test.YtimmfbnjndndlaaGreatDoorM8
import Derived.Test.YtimmfbnjndndlaaGreatDoorM4
import Derived.Deep.QuietTactic
import Derived.BigQuiet
import Derived.Shelf.Abstract
set_option linter.all false
namespace Go.Proofs.YtimmfbnjndndlaaGreatDoor
open Go.RowKit
set_option maxHeartbeats 1000000
set_option maxRecDepth 100000
theorem nameIs_at{ds:List FactD}{nm:ByteArray}{i:Nat}(hi:i<ds.length):nameIs ds nm i=decide (ds[i].name =nm):=by
 simp[nameIs,List.getElem?_eq_getElem hi]
theorem index1_any(B:Nat)(nm:ByteArray)(f:FactD)(W:World)(hB:W.cell? ⟨B,0,none⟩=some (.string nm)):
  Calls Tryz.prog 91 #[.agg #[.string f.name,.int .i64 f.kind,.int .i64 f.lo,.int .i64 f.hi],.pointer (some ⟨B,0,none⟩)] W λe W'=>e= .returned (.bool (decide (f.name=nm)))∧Below W.heap.size W W':=by
 have hlt:B<W.heap.size:=lt_of_cell hB;go_enter Tryz.func91,Tryz.ntmps91
 go_wp2;go_ret;exact⟨ret_bool (toList_beq _ _),(Below.refl _ _).alloc (Nat.le_refl _) _⟩
theorem factIndex_any(Z:Zone)(v:Value)(ds:List FactD)(nm:ByteArray)(w:World)(hd:Facts Z w v ds):
  Calls Tryz.prog 59 #[.agg #[v],.string nm] w λe w'=>e= .returned (.int .i64 (factIdx ds nm))∧Below w.heap.size w w':=by
 obtain⟨⟨A,cap,rfl,hcap,_,hbytes,hs⟩,hfit⟩:=hd;have eg:∀args w,(callFunc 91 args).run Tryz.prog w= .ok (.enter 91 args) w:=enters_of Tryz.func91 (by kernel_rfl) rfl;have hk2:Keeps Z w ((w.alloc (.cells #[.slice A ds.length cap] 24)).alloc (.cells #[.string nm] 9)):=((Keeps.refl _ _).alloc _).alloc _
 have HC:=hid (indexFuncFact_any 91 #[.pointer (some ⟨w.heap.size+1,0,none⟩)] eg (λcs x=>cs=FactD.cells x) Z ds (nameIs ds nm) A cap ((w.alloc (.cells #[.slice A ds.length cap] 24)).alloc (.cells #[.string nm] 9))
  (λcs x h=>⟨_,_,_,_,h⟩) (hs.imp (λ_ _ h=>h) hk2 (λ_ h=>h)) (by omega) (λi hi cs hcs W hW=>by
   subst hcs;rw[nameIs_at hi]
   exact index1_any (w.heap.size+1) nm ds[i] W (by rw[hW.cell (by simp)];simp)))
 clear hs;go_enter Tryz.func59,Tryz.ntmps59
 go_wp2_with fail
 refine HC.out.mono ?_;rintro e w1 ⟨rfl,hb1⟩;go_wp2;go_ret;exact⟨rfl,(((Below.refl _ _).alloc (Nat.le_refl _) _).alloc (by simp) _).trans (hb1.mono (by simp;omega))⟩
theorem factFits_any(Z:Zone)(v vc:Value)(ds:List FactD)(c:List Int)(w:World)(hd:Facts Z w v ds)(hc:Ints Z w vc c):
  Calls Tryz.prog 24 #[.agg #[v],vc] w λe w'=>e= .returned (.bool (fits ds c))∧Below w.heap.size w w':=by
 have hd':=hd;obtain⟨⟨A,cap,rfl,hcap,_,hbytes,hs⟩,hfit⟩:=hd;have hc':=hc;obtain⟨⟨C,ccap,rfl,hccap,hccap2,hcl,_⟩,_⟩:=hc';have hk1:Keeps Z w (w.alloc (.cells #[.slice A ds.length cap] 24)):=(Keeps.refl _ _).alloc _;have HV:=hid (factValid_any Z _ ds (w.alloc (.cells #[.slice A ds.length cap] 24)) (hd'.keep hk1));clear hd';have HS:=hid hs;have HCI:=hid hc;clear hs hc;go_enter Tryz.func24,Tryz.ntmps24
 by_cases hv:validDom ds=true
 ·by_cases hl:c.length=ds.length
  ·have HV1:=hid hv;(have hlz:((c.length:Int)!=(ds.length:Int))=false:=by simp[hl]);have HL:=hid hl;clear hv hl;(go_wp2_with fail);refine HV.out.mono ?_;rintro e w1 ⟨rfl,hb1⟩;rw[HV1.out];obtain⟨hce,hfr⟩:=bcell hb1;have hbw:Below w.heap.size w w1:=(below1 w _).trans (hb1.mono (by simp));clear hb1;go_wp2;go_loopw[21] (λi wr=>∃k:Nat,k≤ds.length∧i= .int .i64 k∧wr.cell? ⟨w.heap.size,0,none⟩=some (.slice A ds.length cap)∧Below w.heap.size w wr∧Hid (fitTo ds c k)) (λi _=>ds.length-(intOf i).toNat);case atStart=>exact⟨0,Nat.zero_le _,rfl,by rw[hce _ _ (by simp)];simp,hbw,fitTo_zero _ _⟩
   case round=>
    obtain⟨k,hk,rfl,hcell,hbel,hft⟩:=hrel;by_cases hlt:k<ds.length
    ·obtain⟨b,off,cs,rfl,hz,hcs,rfl⟩:=HS.out.at_ hlt;(have hltc:k<c.length:=by rw[HL.out];exact hlt);have hbs:b<w.heap.size:=lt_of_cell (fact_cells hcs).1;obtain⟨c0,c1,c2,c3⟩:=fact_cells (cells_below hbel hbs hcs);clear hcs;obtain⟨b2,off2,rfl,hz2,hb2,hcc⟩:=HCI.out.at_ hltc;have hcc2:=brd hbel hcc hb2;have hb2r:b2<wr.heap.size:=lt_of_cell hcc2;clear hcc;have HNEXT:=hid (λh=>fitTo_succ hft.out hlt hltc h);have HBAD:=hid (λh=>fits_bad hlt hltc h);have hub:ds[k].fit :=hfit ds[k] (List.getElem_mem hlt);generalize ds[k]=f at*;generalize c[k]=x at*;obtain⟨nm,kd,lo,hi⟩:=f;simp only at c0 c1 c2 c3;(have hkI:((k:Nat):Int)<(c.length:Int):=by omega);(have hk0:(0:Int)≤(k:Int):=by omega);by_cases hlo:x<lo
     ·(have hd1:decide (x<lo)=true:=by simpa using hlo);go_wp2;go_quiet(fail);go_wp2;go_ret;refine⟨ret_bool (HBAD.out ?_).symm,?_⟩
      ·unfold inR;simp only[Bool.and_eq_false_iff,decide_eq_false_iff_not];left;omega
      ·exact below_drewN' (hbel.alloc hbel.size _) _
     ·(have hd1:decide (x<lo)=false:=by simpa using hlo);by_cases hhi:hi<x
      ·(have hd2:decide (hi<x)=true:=by simpa using hhi);go_wp2;go_quiet(fail);go_wp2;go_ret;refine⟨ret_bool (HBAD.out ?_).symm,?_⟩
       ·unfold inR;simp only[Bool.and_eq_false_iff,decide_eq_false_iff_not];right;omega
       ·exact below_drewN' (hbel.alloc hbel.size _) _
      ·(have hd2:decide (hi<x)=false:=by simpa using hhi);go_wp2;go_quiet(fail);go_wp2;go_roundw
       case rel=>
        refine⟨k+1,by omega,by go_num,?_,below_drewN' (hbel.alloc hbel.size _) _,HNEXT.out ?_⟩
        ·go_simp;exact cell_alloc hcell _
        ·unfold inR;simp only[Bool.and_eq_true,decide_eq_true_eq];omega
       case measure=>simp[intOf];omega
    ·(obtain rfl:k=ds.length:=by omega);go_wp2;go_ret;exact⟨ret_bool (fits_all HV1.out HL.out hft.out).symm,hbel⟩
  ·(have HB:Hid (fits ds c=false):=by simp[Hid,fits,hl]);(have hlz:((c.length:Int)!=(ds.length:Int))=true:=by simp;omega);have HV1:=hid hv;clear hv hl;(go_wp2_with fail);refine HV.out.mono ?_;rintro e w1 ⟨rfl,hb1⟩;rw[HV1.out];obtain⟨hce,hfr⟩:=bcell hb1;have hbw:Below w.heap.size w w1:=(below1 w _).trans (hb1.mono (by simp));clear hb1;go_wp2;go_ret;exact⟨ret_bool HB.out.symm,hbw⟩
 ·have hv':validDom ds=false:=by simpa using hv
  have HB:Hid (fits ds c=false):=by simp[Hid,fits,hv']
  have HV1:=hid hv';clear hv hv';go_wp2_with fail
  refine HV.out.mono ?_;rintro e w1 ⟨rfl,hb1⟩;rw[HV1.out];obtain⟨hce,hfr⟩:=bcell hb1;have hbw:Below w.heap.size w w1:=(below1 w _).trans (hb1.mono (by simp));clear hb1;go_wp2;go_ret;exact⟨ret_bool HB.out.symm,hbw⟩
theorem Tryz.eInt:ElemIs Tryz.prog 3 1 8:=elemIs_of (z:= .int .i64 0) (by kernel_rfl) rfl (by decide)
theorem I64_of_fit{f:FactD}(h:f.fit):I64 f.lo:=h.2.2.1
end Go.Proofs.YtimmfbnjndndlaaGreatDoor
