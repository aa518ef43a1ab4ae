/- Texts RN2. -/
import Derived.Test.YtimmfbnjndndlaaGreatDoorM45
set_option linter.all false
namespace Go.Proofs.YtimmfbnjndndlaaGreatDoor
open Go.RowKit
set_option maxHeartbeats 16000000
set_option maxRecDepth 100000
section
open Go.Shelf
theorem head28_any(w:World)(htab:TabB w.heap.size w):Calls Tryz.prog 4 #[] w λe w'=>e= .returned (.bool true)∧Below w.heap.size w w':=by
 have HTAB:=hid htab;clear htab;go_enter Tryz.func4,Tryz.ntmps4
 go_upto_region 2 with fail
 have HI:=hid (hw1_is w);have hW:hW1 w=hW1 w:=rfl
 conv at hW=>lhs;unfold hW1
 rw[hW];clear hW;generalize hW1 w=W1 at*;have HI2:=hid (hw2_is W1);obtain⟨n0,e0⟩:∃n,n=w.heap.size:=⟨_,rfl⟩;have HN0:=hid e0;rw[<-e0]at HI⊢;have HOW:=hid (show(hW2 W1).ownsRow n0 42 5 (.slice (some ⟨n0+1+1+1+1,0,none⟩) 3 3) 3 _ from own_full (HI.out.2.2.2.2.2.below HI2.out.1 HI.out.2.2.2.2.2.lt) (by omega) (by decide) rfl);have HNB:=hid (blkc (cs:=[.string ⟨#[107,105,116]⟩,.slice (some ⟨W1.heap.size,0,none⟩) 1 1,.string ⟨#[69,85,82]⟩,.int .i64 30,.slice (some ⟨W1.heap.size+1,0,none⟩) 2 2]) HI2.out.2.2.2);have hle:n0≤W1.heap.size:=by have:=HI.out.1.size;omega
 clear e0;go_upto_region 3 with(at_builtin;refine wpList_append1 rfl (.tmp 29) (.tmp 36) _ rfl Tryz.underlying28 Tryz.eProd rfl HOW.out rfl (news:=[.string ⟨#[107,105,116]⟩,.slice (some ⟨W1.heap.size,0,none⟩) 1 1,.string ⟨#[69,85,82]⟩,.int .i64 30,.slice (some ⟨W1.heap.size+1,0,none⟩) 2 2]) rfl HNB.out (by simp[Value.oneCell']) (by unfold maxLen;omega) (by omega) (by simp;omega) ?_;intro v5 w5 hown5 hg5 hat5)
 obtain⟨g5,cap5,hv5⟩:=own_form hown5;subst hv5;have HB5:=hid (show Below w.heap.size w w5 from HN0.out▸below_own (HI.out.1.trans (HI2.out.1.mono hle)) HOW.out hg5 (Nat.le_trans hle HI2.out.1.size) (Nat.le_refl _));have HP5:=hid (h_prods HI2.out HI.out.2 hg5 hown5);clear HI HI2 HOW HNB hown5 hg5 hat5 hle HN0;have HOR:=hid (h_ord HP5.out);go_wp2_with fail
 refine HOR.out.mono ?_;rintro e w6 ⟨OB,ocap,rfl,hown,hrow,hb⟩;have HD:=hid (hd_start HP5.out HB5.out HTAB.out hrow hown hb);clear hown hb hrow HOR HP5 HB5 HTAB;go_wp2_with fail
 refine(table_any _).mono ?_;rintro e w7 ⟨vd,vl,rfl,ht,hb⟩;replace HD:=hid (HD.out.on hb);have HT:=hid ht;clear hb ht;obtain⟨aV,bV,cV,hrV⟩:=rt_tri (ofR 450 1);have HRV:=hid hrV;go_wp2_with fail
 refine(h_val HD.out HT.out (λ_ h=>h.2) e_vR ((rtE_zero _).trans hrV) rfl).mono ?_;rintro e w8 ⟨rfl,hb⟩;have hb':=hb.alloc hb.size (.cells #[.bool aV,.string bV,.string cV] 53);replace HD:=hid (HD.out.on hb');have HBV:=hid (Blk.new w8 53 #[.bool aV,.string bV,.string cV]);clear hb hb' HT hrV;go_upto_region 5 with fail
 generalize w8.alloc (.cells #[.bool aV,.string bV,.string cV] 53)=w9 at*;generalize w8.heap.size=xV at*;clear w8;go_wp2_with fail
 refine(table_any _).mono ?_;rintro e w10 ⟨vd,vl,rfl,ht,hb⟩;replace HD:=hid (HD.out.on hb);replace HBV:=hid (HBV.out.below hb HBV.out.lt);have HT:=hid ht;clear hb ht;obtain⟨aC,bC,cC,hrC⟩:=rt_tri (ofR 300 1);have HRC:=hid hrC;go_wp2_with fail
 refine(h_ctl HD.out HT.out (λ_ h=>h.2) e_cR ((rtE_zero _).trans hrC) rfl).mono ?_;rintro e w11 ⟨rfl,hb⟩;have hb':=hb.alloc hb.size (.cells #[.bool aC,.string bC,.string cC] 53);replace HD:=hid (HD.out.on hb');replace HBV:=hid (HBV.out.below hb' HBV.out.lt);have HBC:=hid (Blk.new w11 53 #[.bool aC,.string bC,.string cC]);clear hb hb' HT hrC;go_upto_region 6 with fail
 generalize w11.alloc (.cells #[.bool aC,.string bC,.string cC] 53)=w12 at*;generalize w11.heap.size=xC at*;clear w11;go_wp2_with fail
 refine(table_any _).mono ?_;rintro e w13 ⟨vd,vl,rfl,ht,hb⟩;replace HD:=hid (HD.out.on hb);replace HBV:=hid (HBV.out.below hb HBV.out.lt);replace HBC:=hid (HBC.out.below hb HBC.out.lt);have HT:=hid ht;clear hb ht;obtain⟨aZ,bZ,cZ,hrZ⟩:=rt_tri (ofR 0 1);have HRZ:=hid hrZ;go_wp2_with fail
 refine(h_ctl HD.out HT.out (λ_ h=>h.2) e_cR2 ((rtE_zero _).trans hrZ) rfl).mono ?_;rintro e w14 ⟨rfl,hb⟩;have hb':=hb.alloc hb.size (.cells #[.bool aZ,.string bZ,.string cZ] 53);replace HD:=hid (HD.out.on hb');replace HBV:=hid (HBV.out.below hb' HBV.out.lt);replace HBC:=hid (HBC.out.below hb' HBC.out.lt);have HBZ:=hid (Blk.new w14 53 #[.bool aZ,.string bZ,.string cZ]);clear hb hb' HT hrZ;go_upto_region 7 with fail
 generalize w14.alloc (.cells #[.bool aZ,.string bZ,.string cZ] 53)=w15 at*;generalize w14.heap.size=xZ at*;clear w14;go_wp2_with fail
 refine(table_any _).mono ?_;rintro e w16 ⟨vd,vl,rfl,ht,hb⟩;replace HD:=hid (HD.out.on hb);replace HBV:=hid (HBV.out.below hb HBV.out.lt);replace HBC:=hid (HBC.out.below hb HBC.out.lt);replace HBZ:=hid (HBZ.out.below hb HBZ.out.lt);have HT:=hid ht;clear hb ht;go_wp2_with fail
 refine(h_shr HD.out HT.out (λ_ h=>h.2) e_s).mono ?_;rintro e w17 ⟨rfl,hb⟩;replace HD:=hid (HD.out.on hb);replace HBV:=hid (HBV.out.below hb HBV.out.lt);replace HBC:=hid (HBC.out.below hb HBC.out.lt);replace HBZ:=hid (HBZ.out.below hb HBZ.out.lt);clear hb HT;go_wp2_with fail
 refine(table_any _).mono ?_;rintro e w18 ⟨vd,vl,rfl,ht,hb⟩;replace HD:=hid (HD.out.on hb);replace HBV:=hid (HBV.out.below hb HBV.out.lt);replace HBC:=hid (HBC.out.below hb HBC.out.lt);replace HBZ:=hid (HBZ.out.below hb HBZ.out.lt);have HT:=hid ht;clear hb ht;go_wp2_with fail
 refine(h_shr HD.out HT.out (λ_ h=>h.2) e_s2).mono ?_;rintro e w19 ⟨rfl,hb⟩;replace HD:=hid (HD.out.on hb);replace HBV:=hid (HBV.out.below hb HBV.out.lt);replace HBC:=hid (HBC.out.below hb HBC.out.lt);replace HBZ:=hid (HBZ.out.below hb HBZ.out.lt);clear hb HT;go_wp2_with fail
 refine(table_any _).mono ?_;rintro e w20 ⟨vd,vl,rfl,ht,hb⟩;replace HD:=hid (HD.out.on hb);replace HBV:=hid (HBV.out.below hb HBV.out.lt);replace HBC:=hid (HBC.out.below hb HBC.out.lt);replace HBZ:=hid (HBZ.out.below hb HBZ.out.lt);have HT:=hid ht;clear hb ht;obtain⟨aN,bN,cN,hrN⟩:=rtE_tri (valueP tabT hProds [] nEur nNone 0);go_wp2_with fail
 refine(h_val HD.out HT.out (λ_ h=>h.2) rfl hrN e_none).mono ?_;rintro e w21 ⟨rfl,hb⟩;have hb':=hb.alloc hb.size (.cells #[.bool aN,.string bN,.string cN] 53);replace HD:=hid (HD.out.on hb');replace HBV:=hid (HBV.out.below hb' HBV.out.lt);replace HBC:=hid (HBC.out.below hb' HBC.out.lt);replace HBZ:=hid (HBZ.out.below hb' HBZ.out.lt);clear hb hb' HT hrN;go_upto_region 10 with fail
 generalize w21.alloc (.cells #[.bool aN,.string bN,.string cN] 53)=w22 at*;generalize w21.heap.size=xN at*;clear w21
 have HC:=hid (λ(W:World)(hW:Below w22.heap.size w22 W)=>(show W.cell? ⟨xV,0,none⟩=some (.bool aV)∧W.cell? ⟨xV,1,none⟩=some (.string bV)∧W.cell? ⟨xV,2,none⟩=some (.string cV)∧W.cell? ⟨xC,0,none⟩=some (.bool aC)∧W.cell? ⟨xC,1,none⟩=some (.string bC)∧W.cell? ⟨xC,2,none⟩=some (.string cC)∧W.cell? ⟨xZ,0,none⟩=some (.bool aZ)∧W.cell? ⟨xZ,1,none⟩=some (.string bZ)∧W.cell? ⟨xZ,2,none⟩=some (.string cZ) from by
  have h1:=HBV.out.below hW HBV.out.lt;have h2:=HBC.out.below hW HBC.out.lt;have h3:=HBZ.out.below hW HBZ.out.lt
  exact⟨h1.at0,h1.at1,h1.at2,h2.at0,h2.at1,h2.at2,h3.at0,h3.at1,h3.at2⟩))
 refine wp_region_S 25 (λW=>Below w22.heap.size w22 W) (by kernel_rfl) ?_;have hS:(λW=>Below w22.heap.size w22 W) w22.drew:=(Below.refl _ _).drew;generalize w22.drew=y0 at*
 (refine tkZ 0 ?_ hS ?_ ?_;rotate_left;intro w;go_simp;(try with_reducible rfl);simp only[nr])
 (refine tkZ 1 ?_ hS ?_ ?_;rotate_left;intro w;go_simp;(try with_reducible rfl);simp only[nr])
 (refine tkZ 2 ?_ hS ?_ ?_;rotate_left;intro w;go_simp;(try with_reducible rfl);simp only[nr])
 (refine tkZ 3 ?_ hS ?_ ?_;rotate_left;intro w;go_simp;(try with_reducible rfl);simp only[nr])
 refine wSG 4 (λK hK=> ?_);go_wp2_with fail
 have hb6:Below w22.heap.size w22 (y0.alloc (.cells #[.string ⟨#[98,111,108,116]⟩,.string ⟨#[115,99,111,112,101]⟩,.string ⟨#[107,105,116]⟩,.string ⟨#[99,114,97,116,101]⟩] 9)):=hS.alloc hS.size _;have HST:=hid (h_strs y0);refine hK _ _ (Or.inr hb6) ?_;clear hK K hS
 (try simp only[nr])
 generalize y0.alloc (.cells #[.string ⟨#[98,111,108,116]⟩,.string ⟨#[115,99,111,112,101]⟩,.string ⟨#[107,105,116]⟩,.string ⟨#[99,114,97,116,101]⟩] 9)=y1 at*;generalize y0.heap.size=yb at*;have hS:(λW=>Below w22.heap.size w22 W) y1:=hb6;clear hb6;refine wSG 5 (λK hK=> ?_);go_wp2_with fail
 refine(h_strings (HD.out.on hS).st HST.out).mono ?_;rintro e y2 ⟨rfl,hb⟩;have hb6:Below w22.heap.size w22 y2:=hS.trans (hb.mono hS.size);refine hK _ _ (Or.inr hb6) ?_;clear hK K hb hS
 (try simp only[nr])
 have hS:(λW=>Below w22.heap.size w22 W) y2:=hb6;clear hb6;clear HST
 (refine tkZ 6 ?_ hS ?_ ?_;rotate_left;intro w;go_simp;(try with_reducible rfl);simp only[nr])
 (refine tkZ 7 ?_ hS ?_ ?_;rotate_left;intro w;go_simp;(try with_reducible rfl);simp only[nr])
 (refine tkZ 8 ?_ hS ?_ ?_;rotate_left;intro w;go_simp;(try with_reducible rfl);simp only[nr])
 (refine tkZ 9 ?_ hS ?_ ?_;rotate_left;intro w;go_simp;(try with_reducible rfl);simp only[nr])
 (refine tkZ 10 ?_ hS ?_ ?_;rotate_left;intro w;go_simp;(try with_reducible rfl);simp only[nr])
 (refine tkZ 11 ?_ hS ?_ ?_;rotate_left;intro w;go_simp;(try with_reducible rfl);simp only[nr])
 (refine tkS 12 ?_ hS ?_ ?_;rotate_left;intro w hkw;obtain⟨v0,v1,v2,c0,c1,c2,z0,z1,z2⟩:=HC.out _ hkw;clear hkw;go_simp;(try with_reducible rfl);simp only[nr])
 refine wSG 13 (λK hK=> ?_);go_wp2_with fail
 refine(h_num (by unfold I64;omega) HRV.out _ (HD.out.on hS).tab).mono ?_;rintro e y3 ⟨rfl,hb⟩;have hb6:Below w22.heap.size w22 y3:=hS.trans (hb.mono hS.size);refine hK _ _ (Or.inr hb6) ?_;clear hK K hb hS
 (try simp only[nr])
 have hS:(λW=>Below w22.heap.size w22 W) y3:=hb6;clear hb6;refine tkZ 14 (.bool true) hS (λW=>(exec_eqR (ofR 450 1) (ofR 450 1) W rfl HRV.out.symm HRV.out.symm).trans (by rw[decide_eq_true rfl])) ?_
 (try simp only[nr])
 (refine tkZ 15 ?_ hS ?_ ?_;rotate_left;intro w;go_simp;(try with_reducible rfl);simp only[nr])
 (refine tkZ 16 ?_ hS ?_ ?_;rotate_left;intro w;go_simp;(try with_reducible rfl);simp only[nr])
 (refine tkZ 17 ?_ hS ?_ ?_;rotate_left;intro w;go_simp;(try with_reducible rfl);simp only[nr])
 (refine tkZ 18 ?_ hS ?_ ?_;rotate_left;intro w;go_simp;(try with_reducible rfl);simp only[nr])
 (refine tkZ 19 ?_ hS ?_ ?_;rotate_left;intro w;go_simp;(try with_reducible rfl);simp only[nr])
 (refine tkZ 20 ?_ hS ?_ ?_;rotate_left;intro w;go_simp;(try with_reducible rfl);simp only[nr])
 (refine tkS 21 ?_ hS ?_ ?_;rotate_left;intro w hkw;obtain⟨v0,v1,v2,c0,c1,c2,z0,z1,z2⟩:=HC.out _ hkw;clear hkw;go_simp;(try with_reducible rfl);simp only[nr])
 refine wSG 22 (λK hK=> ?_);go_wp2_with fail
 refine(h_num (by unfold I64;omega) HRC.out _ (HD.out.on hS).tab).mono ?_;rintro e y4 ⟨rfl,hb⟩;have hb6:Below w22.heap.size w22 y4:=hS.trans (hb.mono hS.size);refine hK _ _ (Or.inr hb6) ?_;clear hK K hb hS
 (try simp only[nr])
 have hS:(λW=>Below w22.heap.size w22 W) y4:=hb6;clear hb6;refine tkZ 23 (.bool true) hS (λW=>(exec_eqR (ofR 300 1) (ofR 300 1) W rfl HRC.out.symm HRC.out.symm).trans (by rw[decide_eq_true rfl])) ?_
 (try simp only[nr])
 (refine tkZ 24 ?_ hS ?_ ?_;rotate_left;intro w;go_simp;(try with_reducible rfl);simp only[nr])
 refine wS1 25 (λK hK=> ?_);go_wp2_with fail
 refine hK _ _ (Or.inl rfl) ?_;clear hK K
 (try simp only[nr])
 refine wSd ?_ _;replace HBZ:=hid (HBZ.out.below hS HBZ.out.lt);replace HD:=hid (HD.out.on hS);clear hS HC HBV HBC HRV HRC;go_upto_region 11 with fail
 rename World=>w30
 have HC:=hid (λ(W:World)(hW:Below w30.heap.size w30 W)=>(show W.cell? ⟨xZ,0,none⟩=some (.bool aZ)∧W.cell? ⟨xZ,1,none⟩=some (.string bZ)∧W.cell? ⟨xZ,2,none⟩=some (.string cZ) from by
  have h3:=HBZ.out.below hW HBZ.out.lt
  exact⟨h3.at0,h3.at1,h3.at2⟩))
 obtain⟨hcp1,hcp2⟩:=prods_cap HD.out.pr;refine wp_region_S 43 (λW=>Below w30.heap.size w30 W) (by kernel_rfl) ?_;have hS:(λW=>Below w30.heap.size w30 W) w30.drew:=(Below.refl _ _).drew
 (refine tkZ 0 ?_ hS ?_ ?_;rotate_left;intro w;go_simp;(try with_reducible rfl);simp only[nr])
 (refine tkZ 1 ?_ hS ?_ ?_;rotate_left;intro w;go_simp;(try with_reducible rfl);simp only[nr])
 (refine tkZ 2 ?_ hS ?_ ?_;rotate_left;intro w;go_simp;(try with_reducible rfl);simp only[nr])
 (refine tkZ 3 ?_ hS ?_ ?_;rotate_left;intro w;go_simp;(try with_reducible rfl);simp only[nr])
 (refine tkZ 4 ?_ hS ?_ ?_;rotate_left;intro w;go_simp;(try with_reducible rfl);simp only[nr])
 (refine tkZ 5 ?_ hS ?_ ?_;rotate_left;intro w;go_simp;(try with_reducible rfl);simp only[nr])
 (refine tkS 6 ?_ hS ?_ ?_;rotate_left;intro w hkw;obtain⟨z0,z1,z2⟩:=HC.out _ hkw;clear hkw;go_simp;(try with_reducible rfl);simp only[nr])
 refine wSG 7 (λK hK=> ?_);go_wp2_with fail
 refine(h_num (by unfold I64;omega) HRZ.out _ (HD.out.on hS).tab).mono ?_;rintro e y3 ⟨rfl,hb⟩;have hb6:Below w30.heap.size w30 y3:=hS.trans (hb.mono hS.size);refine hK _ _ (Or.inr hb6) ?_;clear hK K hb hS
 (try simp only[nr])
 have hS:(λW=>Below w30.heap.size w30 W) y3:=hb6;clear hb6;refine tkZ 8 (.bool true) hS (λW=>(exec_eqR (ofR 0 1) (ofR 0 1) W rfl HRZ.out.symm HRZ.out.symm).trans (by rw[decide_eq_true rfl])) ?_
 (try simp only[nr])
 (refine tkZ 9 ?_ hS ?_ ?_;rotate_left;intro w;go_simp;(try with_reducible rfl);simp only[nr])
 (refine tkZ 10 ?_ hS ?_ ?_;rotate_left;intro w;go_simp;(try with_reducible rfl);simp only[nr])
 (refine tkZ 11 ?_ hS ?_ ?_;rotate_left;intro w;go_simp;(try with_reducible rfl);simp only[nr])
 (refine tkZ 12 ?_ hS ?_ ?_;rotate_left;intro w;go_simp;(try with_reducible rfl);simp only[nr])
 (refine tkZ 13 ?_ hS ?_ ?_;rotate_left;intro w;go_simp;(try with_reducible rfl);simp only[nr])
 (refine tkZ 14 ?_ hS ?_ ?_;rotate_left;intro w;go_simp;(try with_reducible rfl);simp only[nr])
 (refine tkZ 15 ?_ hS ?_ ?_;rotate_left;intro w;go_simp;(try with_reducible rfl);simp only[nr])
 (refine tkZ 16 ?_ hS ?_ ?_;rotate_left;intro w;go_simp;(try with_reducible rfl);simp only[nr])
 (refine tkZ 17 ?_ hS ?_ ?_;rotate_left;intro w;go_simp;(try with_reducible rfl);simp only[nr])
 (refine tkZ 18 ?_ hS ?_ ?_;rotate_left;intro w;go_simp;(try with_reducible rfl);simp only[nr])
 (refine tkZ 19 ?_ hS ?_ ?_;rotate_left;intro w;go_simp;(try with_reducible rfl);simp only[nr])
 (refine tkZ 20 ?_ hS ?_ ?_;rotate_left;intro w;go_simp;(try with_reducible rfl);simp only[nr])
 (refine tkZ 21 ?_ hS ?_ ?_;rotate_left;intro w;go_simp;(try with_reducible rfl);simp only[nr])
 (refine tkZ 22 ?_ hS ?_ ?_;rotate_left;intro w;go_simp;(try with_reducible rfl);simp only[nr])
 (refine tkZ 23 ?_ hS ?_ ?_;rotate_left;intro w;go_simp;(try with_reducible rfl);simp only[nr])
 (refine tkZ 24 ?_ hS ?_ ?_;rotate_left;intro w;go_simp;(try with_reducible rfl);simp only[nr])
 (refine tkZ 25 ?_ hS ?_ ?_;rotate_left;intro w;go_simp;(try with_reducible rfl);simp only[nr])
 (refine tkZ 26 ?_ hS ?_ ?_;rotate_left;intro w;go_simp;(try with_reducible rfl);simp only[nr])
 (refine tkZ 27 ?_ hS ?_ ?_;rotate_left;intro w;go_simp;(try with_reducible rfl);simp only[nr])
 (refine tkZ 28 ?_ hS ?_ ?_;rotate_left;intro w;go_simp;(try with_reducible rfl);simp only[nr])
 (refine tkZ 29 ?_ hS ?_ ?_;rotate_left;intro w;go_simp;(try with_reducible rfl);simp only[nr])
 (refine tkZ 30 ?_ hS ?_ ?_;rotate_left;intro w;go_simp;(try with_reducible rfl);simp only[nr])
 (refine tkZ 32 ?_ hS ?_ ?_;rotate_left;intro w;go_simp;(try with_reducible rfl);simp only[nr])
 refine wSG 31 (λK hK=> ?_);go_wp2_with fail
 refine(table_any _).mono ?_;rintro e y5 ⟨vd,vl,rfl,ht,hb⟩;have hb6:Below w30.heap.size w30 y5:=hS.trans (hb.mono hS.size);have HT:=hid ht;clear ht;refine hK _ _ (Or.inr hb6) ?_;clear hK K hb hS
 (try simp only[nr])
 have hS:(λW=>Below w30.heap.size w30 W) y5:=hb6;clear hb6;refine wSG 33 (λK hK=> ?_);go_wp2_with fail
 refine(h_chk (HD.out.on hS) HT.out (λ_ h=>h.2)).mono ?_;rintro e y6 ⟨rfl,hb⟩;have hb6:Below w30.heap.size w30 y6:=hS.trans (hb.mono hS.size);refine hK _ _ (Or.inr hb6) ?_;clear hK K hb hS
 (try simp only[nr])
 have hS:(λW=>Below w30.heap.size w30 W) y6:=hb6;clear hb6;clear HT
 (refine tkZ 34 ?_ hS ?_ ?_;rotate_left;intro w;go_simp;(try with_reducible rfl);simp only[nr])
 (refine tkZ 35 ?_ hS ?_ ?_;rotate_left;intro w;go_simp;(try with_reducible rfl);simp only[nr])
 (refine tkZ 36 ?_ hS ?_ ?_;rotate_left;intro w;go_simp;(try with_reducible rfl);simp only[nr])
 (refine tkZ 38 ?_ hS ?_ ?_;rotate_left;intro w;go_simp;(try with_reducible rfl);simp only[nr])
 refine tkZ 39 (.slice (some ⟨g5,0,none⟩) 2 cap5) hS (λW=> ?_) ?_
 ·go_simp;intro h;omega
 (try simp only[nr])
 refine wSG 37 (λK hK=> ?_);go_wp2_with fail
 refine(table_any _).mono ?_;rintro e y7 ⟨vd,vl,rfl,ht,hb⟩;have hb6:Below w30.heap.size w30 y7:=hS.trans (hb.mono hS.size);have HT:=hid ht;clear ht;refine hK _ _ (Or.inr hb6) ?_;clear hK K hb hS
 (try simp only[nr])
 have hS:(λW=>Below w30.heap.size w30 W) y7:=hb6;clear hb6;refine wSG 40 (λK hK=> ?_);go_wp2_with fail
 refine(h_chk2 (HD.out.on hS) HT.out (λ_ h=>h.2)).mono ?_;rintro e y8 ⟨rfl,hb⟩;have hb6:Below w30.heap.size w30 y8:=hS.trans (hb.mono hS.size);refine hK _ _ (Or.inr hb6) ?_;clear hK K hb hS
 (try simp only[nr])
 have hS:(λW=>Below w30.heap.size w30 W) y8:=hb6;clear hb6;clear HT
 (refine tkZ 41 ?_ hS ?_ ?_;rotate_left;intro w;go_simp;(try with_reducible rfl);simp only[nr])
 (refine tkZ 42 ?_ hS ?_ ?_;rotate_left;intro w;go_simp;(try with_reducible rfl);simp only[nr])
 refine wS1 43 (λK hK=> ?_);go_wp2_with fail
 refine hK _ _ (Or.inl rfl) ?_;clear hK K
 (try simp only[nr])
 refine wSd ?_ _;have HB:=(HD.out.on hS).be;go_wp2_with fail
 go_ret;exact⟨rfl,HB⟩
end
end Go.Proofs.YtimmfbnjndndlaaGreatDoor
