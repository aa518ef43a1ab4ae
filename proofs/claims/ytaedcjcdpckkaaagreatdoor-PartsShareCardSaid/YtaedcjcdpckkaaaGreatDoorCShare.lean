/- Texts RU RPShare. -/
import Derived.Test.YtaedcjcdpckkaaaGreatDoorM49
import Derived.Test.YtaedcjcdpckkaaaGreatDoorCards
import Derived.Test.YtaedcjcdpckkaaaGreatDoorTie
import Derived.SevenTiedAt
set_option linter.all false
namespace Go.Proofs.YtaedcjcdpckkaaaGreatDoor
open Go.RowKit
set_option maxHeartbeats 16000000
set_option maxRecDepth 100000
section
open Go.Shelf
theorem partsShare_any(Z:Zone)(vd vl v vr:Value)(t:TarD)(l:List ProdD)(r:List RateD)(base id:ByteArray)(day:Int)(w:World)(ht:TarR Z w vd vl t)(h:Prods Z w v l)(hr:Rates Z w vr r)(hz:∀b,Z b->b<w.heap.size)
  (hbs:base.size≤140737488355328)(his:id.size≤140737488355328)(hd:I64 day)(htab:TabB w.heap.size w):
  Calls Tryz.prog 8 #[.agg #[vd,vl],v,vr,.string base,.string id,.int .i64 day] w λe w'=>e= .returned (.bool true)∧Below w.heap.size w w':=by
 have HA:=hid (ArgP.mk ht h hr hz hbs his htab);obtain⟨A,cap,hv,-,-⟩:=h.form;obtain⟨A2,cap2,hvl⟩:∃A2 cap2,vl= .slice A2 t.lines.length cap2:=by obtain⟨⟨A2,cap2,e,_⟩⟩:=ht.l;exact⟨A2,cap2,e⟩
 obtain⟨A3,cap3,hvd⟩:∃A3 cap3,vd= .slice A3 t.dom.length cap3:=by obtain⟨⟨A3,cap3,e,_⟩,_⟩:=ht.d;exact⟨A3,cap3,e⟩
 obtain⟨A4,cap4,hvr⟩:∃A4 cap4,vr= .slice A4 r.length cap4:=by obtain⟨⟨A4,cap4,e,_⟩,_⟩:=hr;exact⟨A4,cap4,e⟩
 clear ht h hr hz hbs his htab hd;have HSM:=hid (λW(hW:Below w.heap.size w W)=>small28_any Z vd vl v vr t l r base id W (HA.out.on hW).tar (HA.out.on hW).pr (HA.out.on hW).ra (HA.out.on hW).live (HA.out.on hW).bs (HA.out.on hW).is);have HSH:=hid (λW(hW:Below w.heap.size w W)(hf:t.fine)=>share_any Z vd vl v vr t l r base id day W (HA.out.on hW).tar (HA.out.on hW).pr (HA.out.on hW).ra (HA.out.on hW).live hf (HA.out.on hW).bs (HA.out.on hW).tab);have HCT:=hid (λW(hW:Below w.heap.size w W)(hf:t.fine)=>controlled_any Z vd vl v vr t l r base id day W (HA.out.on hW).tar (HA.out.on hW).pr (HA.out.on hW).ra (HA.out.on hW).live hf (HA.out.on hW).bs (HA.out.on hW).tab);have HVL:=hid (λW(hW:Below w.heap.size w W)(hf:t.fine)=>value_any Z vd vl v vr t l r base id day W (HA.out.on hW).tar (HA.out.on hW).pr (HA.out.on hW).ra (HA.out.on hW).live hf (HA.out.on hW).bs (HA.out.on hW).tab);have HTB:=hid (λW(hW:Below w.heap.size w W)=>(HA.out.on hW).tab);subst hv hvl hvd hvr;have HERR:=hid (@share_err t l r base id day);have HSK:=hid (@share_ok t l r base id day);have HCR:=hid (control_res t l r base id day);have HVR:=hid (value_res t l r base id day);have HLV:=hid (λ(h:(controlP t l r base id day).2=0)=>(show Low (valueP t l r base id day).1 from by obtain⟨p,hp,hc⟩:=control_ok h;exact hc.lowV));obtain⟨S,hS⟩:∃S,S=shareP t l r base id day:=⟨_,rfl⟩;rw[<-hS]at HSH HERR HSK;clear hS;have HSK2:=hid (λ(h:S.2=0)=>(And.intro (HSK.out h).ctl (And.intro (HSK.out h).val (And.intro (HSK.out h).lo (And.intro (HSK.out h).hi (And.intro (HSK.out h).zero (And.intro (HSK.out h).low (HSK.out h).high))))):_∧_∧_∧_∧_∧_∧_));clear HSK;generalize controlP t l r base id day=C at*;generalize valueP t l r base id day=V at*;generalize t.dom.length=dl at*;generalize t.lines.length=nl at*;generalize r.length=rl at*;generalize l.length=ll at*;obtain⟨sn,se⟩:=S;dsimp only at*;have ba:=Blk.new w 27 #[.slice A3 dl cap3,.slice A2 nl cap2];have hb0:=below1 w (.cells #[.slice A3 dl cap3,.slice A2 nl cap2] 27);go_enter Tryz.func8,Tryz.ntmps8
 go_upto_region 1 with fail
 generalize w.alloc (.cells #[.slice A3 dl cap3,.slice A2 nl cap2] 27)=w0 at*;have H0:=hid (And.intro ba hb0);clear ba hb0 HA;go_wp2_with fail
 refine(head28_any w0 (HTB.out _ H0.out.2)).mono ?_;rintro e w1 ⟨rfl,hb⟩;have H1:=hid (And.intro (H0.out.1.below hb H0.out.1.lt) (HBEL_trans H0.out.2 hb));clear hb H0;have a0:=H1.out.1.at0;have a1:=H1.out.1.at1;have al:=H1.out.1.lt;go_wp2_with fail
 refine(HSM.out w1 H1.out.2).mono ?_;rintro e w2 ⟨sb,rfl,hb,hf⟩;have H2:=hid (And.intro (H1.out.1.below hb H1.out.1.lt) (HBEL_trans H1.out.2 hb));have HF:=hid hf;clear hb H1 hf a0 a1 al HSM;cases sb
 ·go_wp2_with fail
  go_ret;exact⟨rfl,H2.out.2⟩
 ·have hfine:t.fine:=HF.out (by first|exact rfl|trivial);replace HSH:=hid (λW hW=>HSH.out W hW hfine);replace HCT:=hid (λW hW=>HCT.out W hW hfine);replace HVL:=hid (λW hW=>HVL.out W hW hfine);clear HF hfine;have a0:=H2.out.1.at0;have a1:=H2.out.1.at1;have al:=H2.out.1.lt;go_wp2_with fail
  refine(HSH.out w2 H2.out.2).mono ?_;rintro e w3 ⟨rfl,hb⟩;have H3:=hid (And.intro (H2.out.1.below hb H2.out.1.lt) (HBEL_trans H2.out.2 hb));clear hb H2 a0 a1 al HSH;have a0:=H3.out.1.at0;have a1:=H3.out.1.at1;have al:=H3.out.1.lt;go_wp2_with fail
  refine(HCT.out w3 H3.out.2).mono ?_;obtain⟨ca,cb,cc,hC⟩:=rtE_tri C;rw[hC];rintro e w4 ⟨rfl,hb⟩;have HCE:=hid hC;have hb':=hb.alloc hb.size (.cells #[.bool ca,.string cb,.string cc] 37);have H5:=hid (And.intro (H3.out.1.below hb' H3.out.1.lt) (And.intro (HBEL_trans H3.out.2 hb') (Blk.new w4 37 #[.bool ca,.string cb,.string cc])));clear hb hb' H3 a0 a1 al HCT hC;go_upto_region 6 with fail
  generalize w4.alloc (.cells #[.bool ca,.string cb,.string cc] 37)=w5 at*;generalize w4.heap.size=xc at*;have a0:=H5.out.1.at0;have a1:=H5.out.1.at1;have al:=H5.out.1.lt;go_wp2_with fail
  refine(HVL.out w5 H5.out.2.1).mono ?_;obtain⟨va,vb,vc,hV⟩:=rtE_tri V;rw[hV];rintro e w6 ⟨rfl,hb⟩;have HVE:=hid hV;have hb':=hb.alloc hb.size (.cells #[.bool va,.string vb,.string vc] 37);have H7:=hid (And.intro (HBEL_trans H5.out.2.1 hb') (And.intro (H5.out.2.2.below hb' H5.out.2.2.lt) (Blk.new w6 37 #[.bool va,.string vb,.string vc])));clear hb hb' H5 a0 a1 al HVL hV;go_upto_region 7 with fail
  generalize w6.alloc (.cells #[.bool va,.string vb,.string vc] 37)=w7 at*;generalize w6.heap.size=xv at*;by_cases he:se=0
  ·subst he;obtain⟨k1,k2,k3,k4,k5,k6,k7⟩:=HSK2.out (by first|exact rfl|trivial);obtain⟨Cr,Ce⟩:=C;obtain⟨Vr,Ve⟩:=V;dsimp only at*;subst k1 k2;have HLV2:=hid (HLV.out (by first|exact rfl|trivial));have HK:=hid (And.intro k5 (And.intro k6 k7));have hcr:RtOk Cr:=HCR.out rfl;have hvr:RtOk Vr:=HVR.out rfl;have HOK:=hid (And.intro hcr hvr);clear HCR HVR HLV HSK2 HERR k5 k6 k7 hcr hvr;rw[rtE_zero]at HCE HVE;go_upto_region 11 with fail
   have HC:=hid (λ(W:World)(hW:Below w7.heap.size w7 W)=>(show W.cell? ⟨xv,0,none⟩=some (.bool va)∧W.cell? ⟨xv,1,none⟩=some (.string vb)∧W.cell? ⟨xv,2,none⟩=some (.string vc)∧W.cell? ⟨xc,0,none⟩=some (.bool ca)∧W.cell? ⟨xc,1,none⟩=some (.string cb)∧W.cell? ⟨xc,2,none⟩=some (.string cc) from by
    have h1:=H7.out.2.2.below hW H7.out.2.2.lt;have h2:=H7.out.2.1.below hW H7.out.2.1.lt
    exact⟨h1.at0,h1.at1,h1.at2,h2.at0,h2.at1,h2.at2⟩))
   have hz0:=rt_tri (ofR 0 1);obtain⟨za,zb,zc,hz⟩:=hz0;have HZE:=hid hz;clear hz;refine wp_region_S 2 (λW=>Below w7.heap.size w7 W) (by kernel_rfl) ?_;have hB0:Below w7.heap.size w7 w7.drew:=(Below.refl _ _).drew;have hS:(λW=>Below w7.heap.size w7 W) w7.drew:=hB0;generalize w7.drew=x0 at*
   (refine tkS 0 ?_ hS ?_ ?_;rotate_left;intro w hkw;obtain⟨q0,q1,q2,p0,p1,p2⟩:=HC.out _ hkw;clear hkw;go_simp;(try with_reducible rfl);simp only[nr])
   refine wS1 1 (λK hK=> ?_);(go_wp2_with fail);refine(h_num (by unfold I64;omega) HZE.out _ (HTB.out _ (HBEL_trans H7.out.1 hS))).mono ?_;rintro e x1 ⟨rfl,hb⟩;have hb6:Below w7.heap.size w7 x1:=hS.trans (hb.mono hS.size);refine hK _ _ (Or.inr hb6) ?_;clear hK K hb hS hB0
   (try simp only[nr])
   refine wS1 2 (λK hK=> ?_);refine oper_eqR _ _ rfl Vr (ofR 0 1) HVE.out.symm HZE.out.symm ?_;refine hK _ _ (Or.inl rfl) ?_;clear hK K;simp only[List.getElem_toArray,List.getElem_cons_zero,List.getElem_cons_succ,nr];refine wSd ?_ _;have H8:=hid (And.intro (HBEL_trans H7.out.1 hb6) (And.intro (H7.out.2.1.below hb6 H7.out.2.1.lt) (H7.out.2.2.below hb6 H7.out.2.2.lt)));clear HC hb6 H7 HZE;(rename World=>w8);by_cases hz:Vr=ofR 0 1
   ·have hn0:sn=0:=HK.out.1 (by rw[hz];decide+kernel);subst hn0;rw[decide_eq_true hz];(go_wp2_with fail);go_ret;exact⟨rfl,H8.out.1⟩
   ·rw[decide_eq_false hz];have HNZ:=hid (show Vr.num≠0 from λh0=>hz (low_zero HLV2.out h0));clear hz;(have hsn:I64 sn:=by unfold I64;omega);(have hsn1:I64 (sn+1):=by unfold I64;omega);(have h100:I64 100:=by unfold I64;omega);obtain⟨HB8,HBC,HBV⟩:Hid (Below w.heap.size w w8)∧Hid (Blk w8 xc 37 #[.bool ca,.string cb,.string cc])∧Hid (Blk w8 xv 37 #[.bool va,.string vb,.string vc]):=⟨hid H8.out.1,hid H8.out.2.1,hid H8.out.2.2⟩;clear H8;obtain⟨o1a,o1b,o1c,ho1⟩:=rt_tri (ofR (sn) 1);have HO1:=hid ho1;have hor:=ofR_rt (n:=sn) (by omega);have HNU:=hid (λX(hX:Below w8.heap.size w8 X)=>h_num hsn HO1.out X (HTB.out X (HBEL_trans HB8.out hX)));have HMU:=hid (λX(hX:Below w8.heap.size w8 X)=>rmul_any (ofR (sn) 1) Vr hor HOK.out.2 X (HTB.out X (HBEL_trans HB8.out hX)));have HMO1:=hid (λh=>mulR_rtok (a:=ofR (sn) 1) (b:=Vr) hor HOK.out.2 h);generalize mulR (ofR (sn) 1) Vr=M1 at*;obtain⟨m1a,m1b,m1c,hm1⟩:=rtE_tri M1;rw[HO1.out,HVE.out,hm1]at HMU;have HM1:=hid hm1;clear hm1 ho1 hor;(go_upto_region 13 with fail);go_cut[20,15] from 95 to 101 (λvp ve wx=>∃bx,vp= .pointer (some ⟨bx,0,none⟩)∧ve= .int .i64 M1.2∧Blk wx bx 37 #[.bool m1a,.string m1b,.string m1c]∧w8.heap.size≤bx∧Below w8.heap.size w8 wx)
    case first=>
     have HQ:=HBV
     have HC:=hid (λ(W:World)(hW:Below w8.heap.size w8 W)=>(show W.cell? ⟨xv,0,none⟩=some (.bool va)∧W.cell? ⟨xv,1,none⟩=some (.string vb)∧W.cell? ⟨xv,2,none⟩=some (.string vc) from by
      have h1:=HQ.out.below hW HQ.out.lt
      exact⟨h1.at0,h1.at1,h1.at2⟩))
     refine wp_region_S 8 (λW=>Below w8.heap.size w8 W) (by kernel_rfl) ?_;have hB0:Below w8.heap.size w8 w8.drew:=(Below.refl _ _).drew;have hS:(λW=>Below w8.heap.size w8 W) w8.drew:=hB0;generalize w8.drew=x0 at*
     (refine tkZ 0 ?_ hS ?_ ?_;rotate_left;intro w;go_simp;(try with_reducible rfl);simp only[nr])
     (refine tkS 2 ?_ hS ?_ ?_;rotate_left;intro w hkw;obtain⟨q0,q1,q2⟩:=HC.out _ hkw;clear hkw;go_simp;(try with_reducible rfl);simp only[nr])
     clear hS;refine wS2 1 7 (λK hK=> ?_) (λK hK=> ?_)
     ·(go_wp2_with fail);refine(HNU.out _ hB0).mono ?_;rintro e x1 ⟨rfl,hb⟩;have hB1:Below w8.heap.size w8 x1:=hB0.trans (hb.mono hB0.size);refine hK _ _ (Or.inr hB1) ?_;clear hK K hb
      (try simp only[nr])
      refine wS2 3 7 (λK hK=> ?_) (λK hK=> ?_)
      ·(go_wp2_with fail);refine(HMU.out _ hB1).mono ?_;rintro e x2 ⟨rfl,hb⟩;have hB2:Below w8.heap.size w8 x2:=hB1.trans (hb.mono hB1.size);refine hK _ _ (Or.inr hB2) ?_;clear hK K hb
       (try simp only[nr])
       have hS:(λW=>Below w8.heap.size w8 W) x2:=hB2
       (refine tkZ 4 ?_ hS ?_ ?_;rotate_left;intro w;go_simp;(try with_reducible rfl);simp only[nr])
       (refine tkZ 5 ?_ hS ?_ ?_;rotate_left;intro w;go_simp;(try with_reducible rfl);simp only[nr])
       (refine tkZ 6 ?_ hS ?_ ?_;rotate_left;intro w;go_simp;(try with_reducible rfl);simp only[nr])
       clear hS;refine wS1 7 (λK hK=> ?_);(go_wp2_with fail);refine hK _ _ (Or.inr (hB2.alloc hB2.size _)) ?_;clear hK K
       (try simp only[nr])
       have hB3:Below w8.heap.size w8 (x2.alloc (.cells #[.bool false,.string ⟨#[]⟩,.string ⟨#[]⟩] 37)):=hB2.alloc hB2.size _;have hX3:=Blk.new x2 37 #[.bool false,.string ⟨#[]⟩,.string ⟨#[]⟩];generalize x2.alloc (.cells #[.bool false,.string ⟨#[]⟩,.string ⟨#[]⟩] 37)=x3 at*;refine wS1 8 (λK hK=> ?_);have c0:=hX3.at0;have c1:=hX3.at1;have c2:=hX3.at2;have g0:=hX3.frozen 0;have g1:=hX3.frozen 1;have g2:=hX3.frozen 2;have cl:=hX3.lt;have HXX:=hid hX3;clear hX3;(go_wp2_with fail);refine hK _ _ (Or.inl rfl) ?_;clear hK K
       (try simp only[nr])
       refine wS1 9 (λK hK=> ?_);(go_wp2_with fail);refine hK _ _ (Or.inl rfl) ?_;clear hK K
       (try simp only[nr])
       refine wSd ?_ _;(go_wp2_with fail);go_meet;exact⟨x2.heap.size,rfl,rfl,((HXX.out.set_ 0 _).set_ 1 _).set_ 2 _,hB2.size,((hB3.setCell hB2.size _).setCell hB2.size _).setCell hB2.size _⟩
      ·(go_wp2_with fail);refine hK _ _ (Or.inr (hB1.alloc hB1.size _)) ?_;clear hK K
       (try simp only[nr])
       have hB2:Below w8.heap.size w8 (x1.alloc (.cells #[.bool false,.string ⟨#[]⟩,.string ⟨#[]⟩] 37)):=hB1.alloc hB1.size _;have hX2:=Blk.new x1 37 #[.bool false,.string ⟨#[]⟩,.string ⟨#[]⟩];generalize x1.alloc (.cells #[.bool false,.string ⟨#[]⟩,.string ⟨#[]⟩] 37)=x2 at*;refine wS1 3 (λK hK=> ?_);(go_wp2_with fail);refine(HMU.out _ hB2).mono ?_;rintro e x3 ⟨rfl,hb⟩;have hB3:Below w8.heap.size w8 x3:=hB2.trans (hb.mono hB2.size);have hX3:=hX2.below hb hX2.lt;refine hK _ _ (Or.inr hB3) ?_;clear hK K hb
       (try simp only[nr])
       have hS:(λW=>Below w8.heap.size w8 W) x3:=hB3
       (refine tkZ 4 ?_ hS ?_ ?_;rotate_left;intro w;go_simp;(try with_reducible rfl);simp only[nr])
       (refine tkZ 5 ?_ hS ?_ ?_;rotate_left;intro w;go_simp;(try with_reducible rfl);simp only[nr])
       (refine tkZ 6 ?_ hS ?_ ?_;rotate_left;intro w;go_simp;(try with_reducible rfl);simp only[nr])
       clear hS;refine wS1 8 (λK hK=> ?_);have c0:=hX3.at0;have c1:=hX3.at1;have c2:=hX3.at2;have g0:=hX3.frozen 0;have g1:=hX3.frozen 1;have g2:=hX3.frozen 2;have cl:=hX3.lt;have HXX:=hid hX3;clear hX3;(go_wp2_with fail);refine hK _ _ (Or.inl rfl) ?_;clear hK K
       (try simp only[nr])
       refine wS1 9 (λK hK=> ?_);(go_wp2_with fail);refine hK _ _ (Or.inl rfl) ?_;clear hK K
       (try simp only[nr])
       refine wSd ?_ _;(go_wp2_with fail);go_meet;exact⟨x1.heap.size,rfl,rfl,((HXX.out.set_ 0 _).set_ 1 _).set_ 2 _,hB1.size,((hB3.setCell hB1.size _).setCell hB1.size _).setCell hB1.size _⟩
     ·(go_wp2_with fail);refine hK _ _ (Or.inr (hB0.alloc hB0.size _)) ?_;clear hK K
      (try simp only[nr])
      have hB1:Below w8.heap.size w8 (x0.alloc (.cells #[.bool false,.string ⟨#[]⟩,.string ⟨#[]⟩] 37)):=hB0.alloc hB0.size _;have hX1:=Blk.new x0 37 #[.bool false,.string ⟨#[]⟩,.string ⟨#[]⟩];generalize x0.alloc (.cells #[.bool false,.string ⟨#[]⟩,.string ⟨#[]⟩] 37)=x1 at*;refine wS1 1 (λK hK=> ?_);(go_wp2_with fail);refine(HNU.out _ hB1).mono ?_;rintro e x2 ⟨rfl,hb⟩;have hB2:Below w8.heap.size w8 x2:=hB1.trans (hb.mono hB1.size);have hX2:=hX1.below hb hX1.lt;refine hK _ _ (Or.inr hB2) ?_;clear hK K hb
      (try simp only[nr])
      refine wS1 3 (λK hK=> ?_);(go_wp2_with fail);refine(HMU.out _ hB2).mono ?_;rintro e x3 ⟨rfl,hb⟩;have hB3:Below w8.heap.size w8 x3:=hB2.trans (hb.mono hB2.size);have hX3:=hX2.below hb hX2.lt;refine hK _ _ (Or.inr hB3) ?_;clear hK K hb
      (try simp only[nr])
      have hS:(λW=>Below w8.heap.size w8 W) x3:=hB3
      (refine tkZ 4 ?_ hS ?_ ?_;rotate_left;intro w;go_simp;(try with_reducible rfl);simp only[nr])
      (refine tkZ 5 ?_ hS ?_ ?_;rotate_left;intro w;go_simp;(try with_reducible rfl);simp only[nr])
      (refine tkZ 6 ?_ hS ?_ ?_;rotate_left;intro w;go_simp;(try with_reducible rfl);simp only[nr])
      clear hS;refine wS1 8 (λK hK=> ?_);have c0:=hX3.at0;have c1:=hX3.at1;have c2:=hX3.at2;have g0:=hX3.frozen 0;have g1:=hX3.frozen 1;have g2:=hX3.frozen 2;have cl:=hX3.lt;have HXX:=hid hX3;clear hX3;(go_wp2_with fail);refine hK _ _ (Or.inl rfl) ?_;clear hK K
      (try simp only[nr])
      refine wS1 9 (λK hK=> ?_);(go_wp2_with fail);refine hK _ _ (Or.inl rfl) ?_;clear hK K
      (try simp only[nr])
      refine wSd ?_ _;(go_wp2_with fail);go_meet;exact⟨x0.heap.size,rfl,rfl,((HXX.out.set_ 0 _).set_ 1 _).set_ 2 _,hB0.size,((hB3.setCell hB0.size _).setCell hB0.size _).setCell hB0.size _⟩
    case rest=>
     obtain⟨x1b,rfl,rfl,hx,hxl,hb⟩:=hcut;have HB9:=hid (HBEL_trans HB8.out hb);replace HBC:=hid (HBC.out.below hb HBC.out.lt);replace HBV:=hid (HBV.out.below hb HBV.out.lt);have HBX1:=hid hx;clear hx hxl hb HB8 HNU HMU;(rename World=>w9);obtain⟨o2a,o2b,o2c,ho2⟩:=rt_tri (ofR (sn+1) 1);have HO2:=hid ho2;have hor:=ofR_rt (n:=sn+1) (by omega);have HNU:=hid (λX(hX:Below w9.heap.size w9 X)=>h_num hsn1 HO2.out X (HTB.out X (HBEL_trans HB9.out hX)));have HMU:=hid (λX(hX:Below w9.heap.size w9 X)=>rmul_any (ofR (sn+1) 1) Vr hor HOK.out.2 X (HTB.out X (HBEL_trans HB9.out hX)));have HMO2:=hid (λh=>mulR_rtok (a:=ofR (sn+1) 1) (b:=Vr) hor HOK.out.2 h);generalize mulR (ofR (sn+1) 1) Vr=M2 at*;obtain⟨m2a,m2b,m2c,hm2⟩:=rtE_tri M2;rw[HO2.out,HVE.out,hm2]at HMU;have HM2:=hid hm2;clear hm2 ho2 hor;(go_upto_region 14 with fail);go_cut[21,17] from 102 to 109 (λvp ve wx=>∃bx,vp= .pointer (some ⟨bx,0,none⟩)∧ve= .int .i64 M2.2∧Blk wx bx 37 #[.bool m2a,.string m2b,.string m2c]∧w9.heap.size≤bx∧Below w9.heap.size w9 wx)
     case first=>
      have HQ:=HBV
      have HC:=hid (λ(W:World)(hW:Below w9.heap.size w9 W)=>(show W.cell? ⟨xv,0,none⟩=some (.bool va)∧W.cell? ⟨xv,1,none⟩=some (.string vb)∧W.cell? ⟨xv,2,none⟩=some (.string vc) from by
       have h1:=HQ.out.below hW HQ.out.lt
       exact⟨h1.at0,h1.at1,h1.at2⟩))
      refine wp_region_S 9 (λW=>Below w9.heap.size w9 W) (by kernel_rfl) ?_;have hB0:Below w9.heap.size w9 w9.drew:=(Below.refl _ _).drew;have hS:(λW=>Below w9.heap.size w9 W) w9.drew:=hB0;generalize w9.drew=x0 at*
      (refine tkZ 0 ?_ hS ?_ ?_;rotate_left;intro w;go_simp;(try with_reducible rfl);simp only[nr])
      (refine tkZ 1 ?_ hS ?_ ?_;rotate_left;intro w;go_simp;(try with_reducible rfl);simp only[nr])
      (refine tkS 3 ?_ hS ?_ ?_;rotate_left;intro w hkw;obtain⟨q0,q1,q2⟩:=HC.out _ hkw;clear hkw;go_simp;(try with_reducible rfl);simp only[nr])
      clear hS;refine wS2 2 8 (λK hK=> ?_) (λK hK=> ?_)
      ·(go_wp2_with fail);refine(HNU.out _ hB0).mono ?_;rintro e x1 ⟨rfl,hb⟩;have hB1:Below w9.heap.size w9 x1:=hB0.trans (hb.mono hB0.size);refine hK _ _ (Or.inr hB1) ?_;clear hK K hb
       (try simp only[nr])
       refine wS2 4 8 (λK hK=> ?_) (λK hK=> ?_)
       ·(go_wp2_with fail);refine(HMU.out _ hB1).mono ?_;rintro e x2 ⟨rfl,hb⟩;have hB2:Below w9.heap.size w9 x2:=hB1.trans (hb.mono hB1.size);refine hK _ _ (Or.inr hB2) ?_;clear hK K hb
        (try simp only[nr])
        have hS:(λW=>Below w9.heap.size w9 W) x2:=hB2
        (refine tkZ 5 ?_ hS ?_ ?_;rotate_left;intro w;go_simp;(try with_reducible rfl);simp only[nr])
        (refine tkZ 6 ?_ hS ?_ ?_;rotate_left;intro w;go_simp;(try with_reducible rfl);simp only[nr])
        (refine tkZ 7 ?_ hS ?_ ?_;rotate_left;intro w;go_simp;(try with_reducible rfl);simp only[nr])
        clear hS;refine wS1 8 (λK hK=> ?_);(go_wp2_with fail);refine hK _ _ (Or.inr (hB2.alloc hB2.size _)) ?_;clear hK K
        (try simp only[nr])
        have hB3:Below w9.heap.size w9 (x2.alloc (.cells #[.bool false,.string ⟨#[]⟩,.string ⟨#[]⟩] 37)):=hB2.alloc hB2.size _;have hX3:=Blk.new x2 37 #[.bool false,.string ⟨#[]⟩,.string ⟨#[]⟩];generalize x2.alloc (.cells #[.bool false,.string ⟨#[]⟩,.string ⟨#[]⟩] 37)=x3 at*;refine wS1 9 (λK hK=> ?_);have c0:=hX3.at0;have c1:=hX3.at1;have c2:=hX3.at2;have g0:=hX3.frozen 0;have g1:=hX3.frozen 1;have g2:=hX3.frozen 2;have cl:=hX3.lt;have HXX:=hid hX3;clear hX3;(go_wp2_with fail);refine hK _ _ (Or.inl rfl) ?_;clear hK K
        (try simp only[nr])
        refine wS1 10 (λK hK=> ?_);(go_wp2_with fail);refine hK _ _ (Or.inl rfl) ?_;clear hK K
        (try simp only[nr])
        refine wSd ?_ _;(go_wp2_with fail);go_meet;exact⟨x2.heap.size,rfl,rfl,((HXX.out.set_ 0 _).set_ 1 _).set_ 2 _,hB2.size,((hB3.setCell hB2.size _).setCell hB2.size _).setCell hB2.size _⟩
       ·(go_wp2_with fail);refine hK _ _ (Or.inr (hB1.alloc hB1.size _)) ?_;clear hK K
        (try simp only[nr])
        have hB2:Below w9.heap.size w9 (x1.alloc (.cells #[.bool false,.string ⟨#[]⟩,.string ⟨#[]⟩] 37)):=hB1.alloc hB1.size _;have hX2:=Blk.new x1 37 #[.bool false,.string ⟨#[]⟩,.string ⟨#[]⟩];generalize x1.alloc (.cells #[.bool false,.string ⟨#[]⟩,.string ⟨#[]⟩] 37)=x2 at*;refine wS1 4 (λK hK=> ?_);(go_wp2_with fail);refine(HMU.out _ hB2).mono ?_;rintro e x3 ⟨rfl,hb⟩;have hB3:Below w9.heap.size w9 x3:=hB2.trans (hb.mono hB2.size);have hX3:=hX2.below hb hX2.lt;refine hK _ _ (Or.inr hB3) ?_;clear hK K hb
        (try simp only[nr])
        have hS:(λW=>Below w9.heap.size w9 W) x3:=hB3
        (refine tkZ 5 ?_ hS ?_ ?_;rotate_left;intro w;go_simp;(try with_reducible rfl);simp only[nr])
        (refine tkZ 6 ?_ hS ?_ ?_;rotate_left;intro w;go_simp;(try with_reducible rfl);simp only[nr])
        (refine tkZ 7 ?_ hS ?_ ?_;rotate_left;intro w;go_simp;(try with_reducible rfl);simp only[nr])
        clear hS;refine wS1 9 (λK hK=> ?_);have c0:=hX3.at0;have c1:=hX3.at1;have c2:=hX3.at2;have g0:=hX3.frozen 0;have g1:=hX3.frozen 1;have g2:=hX3.frozen 2;have cl:=hX3.lt;have HXX:=hid hX3;clear hX3;(go_wp2_with fail);refine hK _ _ (Or.inl rfl) ?_;clear hK K
        (try simp only[nr])
        refine wS1 10 (λK hK=> ?_);(go_wp2_with fail);refine hK _ _ (Or.inl rfl) ?_;clear hK K
        (try simp only[nr])
        refine wSd ?_ _;(go_wp2_with fail);go_meet;exact⟨x1.heap.size,rfl,rfl,((HXX.out.set_ 0 _).set_ 1 _).set_ 2 _,hB1.size,((hB3.setCell hB1.size _).setCell hB1.size _).setCell hB1.size _⟩
      ·(go_wp2_with fail);refine hK _ _ (Or.inr (hB0.alloc hB0.size _)) ?_;clear hK K
       (try simp only[nr])
       have hB1:Below w9.heap.size w9 (x0.alloc (.cells #[.bool false,.string ⟨#[]⟩,.string ⟨#[]⟩] 37)):=hB0.alloc hB0.size _;have hX1:=Blk.new x0 37 #[.bool false,.string ⟨#[]⟩,.string ⟨#[]⟩];generalize x0.alloc (.cells #[.bool false,.string ⟨#[]⟩,.string ⟨#[]⟩] 37)=x1 at*;refine wS1 2 (λK hK=> ?_);(go_wp2_with fail);refine(HNU.out _ hB1).mono ?_;rintro e x2 ⟨rfl,hb⟩;have hB2:Below w9.heap.size w9 x2:=hB1.trans (hb.mono hB1.size);have hX2:=hX1.below hb hX1.lt;refine hK _ _ (Or.inr hB2) ?_;clear hK K hb
       (try simp only[nr])
       refine wS1 4 (λK hK=> ?_);(go_wp2_with fail);refine(HMU.out _ hB2).mono ?_;rintro e x3 ⟨rfl,hb⟩;have hB3:Below w9.heap.size w9 x3:=hB2.trans (hb.mono hB2.size);have hX3:=hX2.below hb hX2.lt;refine hK _ _ (Or.inr hB3) ?_;clear hK K hb
       (try simp only[nr])
       have hS:(λW=>Below w9.heap.size w9 W) x3:=hB3
       (refine tkZ 5 ?_ hS ?_ ?_;rotate_left;intro w;go_simp;(try with_reducible rfl);simp only[nr])
       (refine tkZ 6 ?_ hS ?_ ?_;rotate_left;intro w;go_simp;(try with_reducible rfl);simp only[nr])
       (refine tkZ 7 ?_ hS ?_ ?_;rotate_left;intro w;go_simp;(try with_reducible rfl);simp only[nr])
       clear hS;refine wS1 9 (λK hK=> ?_);have c0:=hX3.at0;have c1:=hX3.at1;have c2:=hX3.at2;have g0:=hX3.frozen 0;have g1:=hX3.frozen 1;have g2:=hX3.frozen 2;have cl:=hX3.lt;have HXX:=hid hX3;clear hX3;(go_wp2_with fail);refine hK _ _ (Or.inl rfl) ?_;clear hK K
       (try simp only[nr])
       refine wS1 10 (λK hK=> ?_);(go_wp2_with fail);refine hK _ _ (Or.inl rfl) ?_;clear hK K
       (try simp only[nr])
       refine wSd ?_ _;(go_wp2_with fail);go_meet;exact⟨x0.heap.size,rfl,rfl,((HXX.out.set_ 0 _).set_ 1 _).set_ 2 _,hB0.size,((hB3.setCell hB0.size _).setCell hB0.size _).setCell hB0.size _⟩
     case rest=>
      obtain⟨x2b,rfl,rfl,hx,hxl,hb⟩:=hcut;have HB10:=hid (HBEL_trans HB9.out hb);replace HBC:=hid (HBC.out.below hb HBC.out.lt);replace HBV:=hid (HBV.out.below hb HBV.out.lt);replace HBX1:=hid (HBX1.out.below hb HBX1.out.lt);have HBX2:=hid hx;clear hx hxl hb HB9 HNU HMU;(rename World=>w10);obtain⟨o3a,o3b,o3c,ho3⟩:=rt_tri (ofR (100) 1);have HO3:=hid ho3;have hor:=ofR_rt (n:=100) (by omega);have HNU:=hid (λX(hX:Below w10.heap.size w10 X)=>h_num h100 HO3.out X (HTB.out X (HBEL_trans HB10.out hX)));have HMU:=hid (λX(hX:Below w10.heap.size w10 X)=>rmul_any (ofR (100) 1) Cr hor HOK.out.1 X (HTB.out X (HBEL_trans HB10.out hX)));have HMO3:=hid (λh=>mulR_rtok (a:=ofR (100) 1) (b:=Cr) hor HOK.out.1 h);generalize mulR (ofR (100) 1) Cr=M3 at*;obtain⟨m3a,m3b,m3c,hm3⟩:=rtE_tri M3;rw[HO3.out,HCE.out,hm3]at HMU;have HM3:=hid hm3;clear hm3 ho3 hor;(go_upto_region 15 with fail);go_cut[22,19] from 110 to 115 (λvp ve wx=>∃bx,vp= .pointer (some ⟨bx,0,none⟩)∧ve= .int .i64 M3.2∧Blk wx bx 37 #[.bool m3a,.string m3b,.string m3c]∧w10.heap.size≤bx∧Below w10.heap.size w10 wx)
      case first=>
       have HQ:=HBC
       have HC:=hid (λ(W:World)(hW:Below w10.heap.size w10 W)=>(show W.cell? ⟨xc,0,none⟩=some (.bool ca)∧W.cell? ⟨xc,1,none⟩=some (.string cb)∧W.cell? ⟨xc,2,none⟩=some (.string cc) from by
        have h1:=HQ.out.below hW HQ.out.lt
        exact⟨h1.at0,h1.at1,h1.at2⟩))
       refine wp_region_S 7 (λW=>Below w10.heap.size w10 W) (by kernel_rfl) ?_;have hB0:Below w10.heap.size w10 w10.drew:=(Below.refl _ _).drew;have hS:(λW=>Below w10.heap.size w10 W) w10.drew:=hB0;generalize w10.drew=x0 at*
       (refine tkS 1 ?_ hS ?_ ?_;rotate_left;intro w hkw;obtain⟨q0,q1,q2⟩:=HC.out _ hkw;clear hkw;go_simp;(try with_reducible rfl);simp only[nr])
       clear hS;refine wS2 0 6 (λK hK=> ?_) (λK hK=> ?_)
       ·(go_wp2_with fail);refine(HNU.out _ hB0).mono ?_;rintro e x1 ⟨rfl,hb⟩;have hB1:Below w10.heap.size w10 x1:=hB0.trans (hb.mono hB0.size);refine hK _ _ (Or.inr hB1) ?_;clear hK K hb
        (try simp only[nr])
        refine wS2 2 6 (λK hK=> ?_) (λK hK=> ?_)
        ·(go_wp2_with fail);refine(HMU.out _ hB1).mono ?_;rintro e x2 ⟨rfl,hb⟩;have hB2:Below w10.heap.size w10 x2:=hB1.trans (hb.mono hB1.size);refine hK _ _ (Or.inr hB2) ?_;clear hK K hb
         (try simp only[nr])
         have hS:(λW=>Below w10.heap.size w10 W) x2:=hB2
         (refine tkZ 3 ?_ hS ?_ ?_;rotate_left;intro w;go_simp;(try with_reducible rfl);simp only[nr])
         (refine tkZ 4 ?_ hS ?_ ?_;rotate_left;intro w;go_simp;(try with_reducible rfl);simp only[nr])
         (refine tkZ 5 ?_ hS ?_ ?_;rotate_left;intro w;go_simp;(try with_reducible rfl);simp only[nr])
         clear hS;refine wS1 6 (λK hK=> ?_);(go_wp2_with fail);refine hK _ _ (Or.inr (hB2.alloc hB2.size _)) ?_;clear hK K
         (try simp only[nr])
         have hB3:Below w10.heap.size w10 (x2.alloc (.cells #[.bool false,.string ⟨#[]⟩,.string ⟨#[]⟩] 37)):=hB2.alloc hB2.size _;have hX3:=Blk.new x2 37 #[.bool false,.string ⟨#[]⟩,.string ⟨#[]⟩];generalize x2.alloc (.cells #[.bool false,.string ⟨#[]⟩,.string ⟨#[]⟩] 37)=x3 at*;refine wS1 7 (λK hK=> ?_);have c0:=hX3.at0;have c1:=hX3.at1;have c2:=hX3.at2;have g0:=hX3.frozen 0;have g1:=hX3.frozen 1;have g2:=hX3.frozen 2;have cl:=hX3.lt;have HXX:=hid hX3;clear hX3;(go_wp2_with fail);refine hK _ _ (Or.inl rfl) ?_;clear hK K
         (try simp only[nr])
         refine wS1 8 (λK hK=> ?_);(go_wp2_with fail);refine hK _ _ (Or.inl rfl) ?_;clear hK K
         (try simp only[nr])
         refine wSd ?_ _;(go_wp2_with fail);go_meet;exact⟨x2.heap.size,rfl,rfl,((HXX.out.set_ 0 _).set_ 1 _).set_ 2 _,hB2.size,((hB3.setCell hB2.size _).setCell hB2.size _).setCell hB2.size _⟩
        ·(go_wp2_with fail);refine hK _ _ (Or.inr (hB1.alloc hB1.size _)) ?_;clear hK K
         (try simp only[nr])
         have hB2:Below w10.heap.size w10 (x1.alloc (.cells #[.bool false,.string ⟨#[]⟩,.string ⟨#[]⟩] 37)):=hB1.alloc hB1.size _;have hX2:=Blk.new x1 37 #[.bool false,.string ⟨#[]⟩,.string ⟨#[]⟩];generalize x1.alloc (.cells #[.bool false,.string ⟨#[]⟩,.string ⟨#[]⟩] 37)=x2 at*;refine wS1 2 (λK hK=> ?_);(go_wp2_with fail);refine(HMU.out _ hB2).mono ?_;rintro e x3 ⟨rfl,hb⟩;have hB3:Below w10.heap.size w10 x3:=hB2.trans (hb.mono hB2.size);have hX3:=hX2.below hb hX2.lt;refine hK _ _ (Or.inr hB3) ?_;clear hK K hb
         (try simp only[nr])
         have hS:(λW=>Below w10.heap.size w10 W) x3:=hB3
         (refine tkZ 3 ?_ hS ?_ ?_;rotate_left;intro w;go_simp;(try with_reducible rfl);simp only[nr])
         (refine tkZ 4 ?_ hS ?_ ?_;rotate_left;intro w;go_simp;(try with_reducible rfl);simp only[nr])
         (refine tkZ 5 ?_ hS ?_ ?_;rotate_left;intro w;go_simp;(try with_reducible rfl);simp only[nr])
         clear hS;refine wS1 7 (λK hK=> ?_);have c0:=hX3.at0;have c1:=hX3.at1;have c2:=hX3.at2;have g0:=hX3.frozen 0;have g1:=hX3.frozen 1;have g2:=hX3.frozen 2;have cl:=hX3.lt;have HXX:=hid hX3;clear hX3;(go_wp2_with fail);refine hK _ _ (Or.inl rfl) ?_;clear hK K
         (try simp only[nr])
         refine wS1 8 (λK hK=> ?_);(go_wp2_with fail);refine hK _ _ (Or.inl rfl) ?_;clear hK K
         (try simp only[nr])
         refine wSd ?_ _;(go_wp2_with fail);go_meet;exact⟨x1.heap.size,rfl,rfl,((HXX.out.set_ 0 _).set_ 1 _).set_ 2 _,hB1.size,((hB3.setCell hB1.size _).setCell hB1.size _).setCell hB1.size _⟩
       ·(go_wp2_with fail);refine hK _ _ (Or.inr (hB0.alloc hB0.size _)) ?_;clear hK K
        (try simp only[nr])
        have hB1:Below w10.heap.size w10 (x0.alloc (.cells #[.bool false,.string ⟨#[]⟩,.string ⟨#[]⟩] 37)):=hB0.alloc hB0.size _;have hX1:=Blk.new x0 37 #[.bool false,.string ⟨#[]⟩,.string ⟨#[]⟩];generalize x0.alloc (.cells #[.bool false,.string ⟨#[]⟩,.string ⟨#[]⟩] 37)=x1 at*;refine wS1 0 (λK hK=> ?_);(go_wp2_with fail);refine(HNU.out _ hB1).mono ?_;rintro e x2 ⟨rfl,hb⟩;have hB2:Below w10.heap.size w10 x2:=hB1.trans (hb.mono hB1.size);have hX2:=hX1.below hb hX1.lt;refine hK _ _ (Or.inr hB2) ?_;clear hK K hb
        (try simp only[nr])
        refine wS1 2 (λK hK=> ?_);(go_wp2_with fail);refine(HMU.out _ hB2).mono ?_;rintro e x3 ⟨rfl,hb⟩;have hB3:Below w10.heap.size w10 x3:=hB2.trans (hb.mono hB2.size);have hX3:=hX2.below hb hX2.lt;refine hK _ _ (Or.inr hB3) ?_;clear hK K hb
        (try simp only[nr])
        have hS:(λW=>Below w10.heap.size w10 W) x3:=hB3
        (refine tkZ 3 ?_ hS ?_ ?_;rotate_left;intro w;go_simp;(try with_reducible rfl);simp only[nr])
        (refine tkZ 4 ?_ hS ?_ ?_;rotate_left;intro w;go_simp;(try with_reducible rfl);simp only[nr])
        (refine tkZ 5 ?_ hS ?_ ?_;rotate_left;intro w;go_simp;(try with_reducible rfl);simp only[nr])
        clear hS;refine wS1 7 (λK hK=> ?_);have c0:=hX3.at0;have c1:=hX3.at1;have c2:=hX3.at2;have g0:=hX3.frozen 0;have g1:=hX3.frozen 1;have g2:=hX3.frozen 2;have cl:=hX3.lt;have HXX:=hid hX3;clear hX3;(go_wp2_with fail);refine hK _ _ (Or.inl rfl) ?_;clear hK K
        (try simp only[nr])
        refine wS1 8 (λK hK=> ?_);(go_wp2_with fail);refine hK _ _ (Or.inl rfl) ?_;clear hK K
        (try simp only[nr])
        refine wSd ?_ _;(go_wp2_with fail);go_meet;exact⟨x0.heap.size,rfl,rfl,((HXX.out.set_ 0 _).set_ 1 _).set_ 2 _,hB0.size,((hB3.setCell hB0.size _).setCell hB0.size _).setCell hB0.size _⟩
      case rest=>
       obtain⟨x3b,rfl,rfl,hx,hxl,hb⟩:=hcut;have HB11:=hid (HBEL_trans HB10.out hb);replace HBC:=hid (HBC.out.below hb HBC.out.lt);replace HBV:=hid (HBV.out.below hb HBV.out.lt);replace HBX1:=hid (HBX1.out.below hb HBX1.out.lt);replace HBX2:=hid (HBX2.out.below hb HBX2.out.lt);have HBX3:=hid hx;clear hx hxl hb HB10 HNU HMU;(rename World=>w11);have HE1:=hid (compareE_any M1 M3 HMO1.out HMO3.out w11 (HTB.out _ HB11.out));obtain⟨K1,hK1⟩:∃K,K=cmpE M1 M3:=⟨_,rfl⟩;obtain⟨K2,hK2⟩:∃K,K=cmpE M3 M2:=⟨_,rfl⟩;have HK1:=hid hK1;have HK2:=hid hK2;have HE2:=hid (λX hX=>compareE_any M3 M2 HMO3.out HMO2.out X (HTB.out X hX));rw[HM1.out,HM3.out,<-hK1]at HE1;rw[HM3.out,HM2.out,<-hK2]at HE2;clear hK1 hK2;have u0:=HBX1.out.at0;have u1:=HBX1.out.at1;have u2:=HBX1.out.at2;have ul:=HBX1.out.lt;have v0:=HBX3.out.at0;have v1:=HBX3.out.at1;have v2:=HBX3.out.at2;have vl:=HBX3.out.lt;(go_wp2_with fail);refine HE1.out.mono ?_;rintro e w12 ⟨rfl,hb⟩;clear u0 u1 u2 ul v0 v1 v2 vl;have HB12:=hid (HBEL_trans HB11.out hb);replace HBX2:=hid (HBX2.out.below hb HBX2.out.lt);replace HBX3:=hid (HBX3.out.below hb HBX3.out.lt);clear hb HB11 HE1;have u0:=HBX2.out.at0;have u1:=HBX2.out.at1;have u2:=HBX2.out.at2;have ul:=HBX2.out.lt;have v0:=HBX3.out.at0;have v1:=HBX3.out.at1;have v2:=HBX3.out.at2;have vl:=HBX3.out.lt;(go_wp2_with fail);refine(HE2.out _ HB12.out).mono ?_;rintro e w13 ⟨rfl,hb⟩;clear u0 u1 u2 ul v0 v1 v2 vl;have HB13:=hid (HBEL_trans HB12.out hb);clear hb HE2
       have HP1:=hid (show M1.2=0->M3.2=0->K1.2=0->K1.1≤0 from λh1 h2 h3=>by
        have e:K1=cmpR M1.1 M3.1:=HK1.out.trans (if_pos ⟨h1,h2⟩);rw[e]at h3⊢
        exact HK.out.2.1 HNZ.out h1 h2 h3)
       have HP2:=hid (show M2.2=0->M3.2=0->K2.2=0->K2.1<0 from λh1 h2 h3=>by
        have e:K2=cmpR M3.1 M2.1:=HK2.out.trans (if_pos ⟨h2,h1⟩);rw[e]at h3⊢
        exact HK.out.2.2 HNZ.out h1 h2 h3)
       clear HK1 HK2 HMO1 HMO2 HMO3;obtain⟨M1r,e1⟩:=M1;obtain⟨M2r,e2⟩:=M2;obtain⟨M3r,e3⟩:=M3;obtain⟨k1o,k1e⟩:=K1;obtain⟨k2o,k2e⟩:=K2;dsimp only at*;clear HM1 HM2 HM3 HBX1 HBX2 HBX3 HBC HBV HK;(have hz:∀x:Int,x≠0->(x==0)=false:=λx hx=>by simpa using hx);have HZ:=hid hz;clear hz;by_cases h3:e3=0
       ·subst h3;replace HP1:=hid (λh1=>HP1.out h1 (by first|exact rfl|trivial));replace HP2:=hid (λh1=>HP2.out h1 (by first|exact rfl|trivial));obtain⟨c1,hc1⟩:∃c:Nat,c=if e1=0 then(if k1e=0 then 0 else 1)else 2:=⟨_,rfl⟩
        have A1:(e1=0∧k1e=0∧k1o≤0)∨(e1=0∧¬k1e=0)∨¬e1=0:=by
         by_cases h1:e1=0
         ·by_cases h2:k1e=0
          ·exact Or.inl ⟨h1,h2,HP1.out h1 h2⟩
          ·exact Or.inr (Or.inl ⟨h1,h2⟩)
         ·exact Or.inr (Or.inr h1)
        have A2:(e2=0∧k2e=0∧k2o<0)∨(e2=0∧¬k2e=0)∨¬e2=0:=by
         by_cases h1:e2=0
         ·by_cases h2:k2e=0
          ·exact Or.inl ⟨h1,h2,HP2.out h1 h2⟩
          ·exact Or.inr (Or.inl ⟨h1,h2⟩)
         ·exact Or.inr (Or.inr h1)
        clear HP1 HP2 hc1 HZ;rcases A1 with⟨rfl,rfl,q1⟩|⟨rfl,q1⟩|q1<;>rcases A2 with⟨rfl,rfl,q2⟩|⟨rfl,q2⟩|q2
        all_goals
         (try have p1:(k1e==0)=false:=by simpa using q1);(try have p1:(e1==0)=false:=by simpa using q1);(try have p2:(k2e==0)=false:=by simpa using q2);(try have p2:(e2==0)=false:=by simpa using q2);(go_wp2_with fail);go_ret;first|exact⟨rfl,HB13.out⟩|exact⟨(show Ending.returned (Value.bool (decide (k2o<0)))=_ from by rw[decide_eq_true q2]),HB13.out⟩
       ·clear HP1 HP2
        have A1:e1=0∨¬e1=0:=by
         by_cases h1:e1=0
         ·exact Or.inl h1
         ·exact Or.inr h1
        have A2:e2=0∨¬e2=0:=by
         by_cases h1:e2=0
         ·exact Or.inl h1
         ·exact Or.inr h1
        clear HZ;rcases A1 with rfl|q1<;>rcases A2 with rfl|q2
        all_goals
         (have p3:(e3==0)=false:=by simpa using h3);(try have p1:(e1==0)=false:=by simpa using q1);(try have p2:(e2==0)=false:=by simpa using q2);(go_wp2_with fail);go_ret;first|exact⟨rfl,HB13.out⟩|exact absurd rfl h3
  ·have hn0:sn=0:=HERR.out he;subst hn0;(have hse:(se==0)=false:=by simpa using he);(go_wp2_with fail);go_ret;exact⟨rfl,H7.out.1⟩
end
section
open Go.ChangeShapes Go.WideShapes Go.ChangeAt
theorem partsshare_lifted(os:Os)(started:os.Started)(H:Type)(enc:TypeId × Value->H):
  ReturnsInHanded {} Tryz.checked os 8 .any (λw args=>(Rows.partsShareSpec.pre enc Tryz.prog Tryz.f8 [] false w args∧laidMetH Tryz.prog laid7 w)∧sizedMet enc Tryz.prog Tryz.f8 (OpenSpec.ofChange Rows.partsShareSpec) false w args)
   (Rows.partsShareSpec.post enc Tryz.prog Tryz.f8 false true false false):=by
 refine returnsInHanded_of_change_and (C:=Tryz.checked) (X:=λw _=>laidMetH Tryz.prog laid7 w) (λ_ _ _ hh h=>h.of_heap hh) own started (by kernel_rfl) Tryz.func8
  (ChangeSpec.witness_shaped (enc:=enc) (C:=Tryz.checked) (os:=os) (X:=λw _=>laidMetH Tryz.prog laid7 w) false (World.laidAll Tryz.prog os laid7) #[.agg #[.slice none 0 0,.slice none 0 0],.slice none 0 0,.slice none 0 0,.string ByteArray.empty,.string ByteArray.empty,.int .i64 0] 8 (World.laidAll_os _ _ _) (laid_shape7 os) (by kernel_rfl) (by kernel_rfl) (by kernel_rfl) (laid_met7 os _)) ?_
 intro W base args ds gs before hval0 hW _ hsz0 hL _;have hval:∀(j:Nat) t v,Tryz.f8.params[j]? =some t->args[j]? =some v->Value.okWide Tryz.prog W .any base t v:=hval0;have hW':=hW;obtain⟨p,q,hA0,hV,rfl,-,-⟩:=hW;have hA:DataW.TrodAll enc Tryz.prog W 0 (λ_=>true) true Tryz.f8.params.toList args.toList ds p:=hA0;have hsz:(DataW.weightsEach Tryz.prog (Tryz.f8.params.toList++Rows.partsShareSpec.plain.varTypes Tryz.prog) (ds++gs)).all (· ≤reachBytes)=true:=hsz0;clear hA0 hsz0 hval0;obtain⟨rfl,rfl⟩:=trodVars_none hV;simp only[List.append_nil]at hW';have hAA:=hA;rw[Tryz.params8]at hA hval hsz;obtain⟨v0,vs0,d0,ds0,p0,q0,hargs,rfl,rfl,h0,r0⟩:=trodAll_cons hA;obtain⟨v1,vs1,d1,ds1,p1,q1,rfl,rfl,rfl,h1,r1⟩:=trodAll_cons r0;obtain⟨v2,vs2,d2,ds2,p2,q2,rfl,rfl,rfl,h2,r2⟩:=trodAll_cons r1;obtain⟨v3,vs3,d3,ds3,p3,q3,rfl,rfl,rfl,h3,r3⟩:=trodAll_cons r2;obtain⟨v4,vs4,d4,ds4,p4,q4,rfl,rfl,rfl,h4,r4⟩:=trodAll_cons r3;obtain⟨v5,vs5,d5,ds5,p5,q5,rfl,rfl,rfl,h5,r5⟩:=trodAll_cons r4;obtain⟨rfl,rfl,rfl⟩:=trodAll_nil r5;obtain rfl:args=#[v0,v1,v2,v3,v4,v5]:=by simpa using congrArg List.toArray hargs
 obtain⟨x0,y0,t0,rfl,a0⟩:=arg_tar (hval 0 27 _ rfl rfl) h0 (rd_arg hsz (j:=0) rfl rfl);obtain⟨xs1,a1⟩:=arg_prods (hval 1 28 _ rfl rfl) h1 (rd_arg hsz (j:=1) rfl rfl);obtain⟨xs2,a2⟩:=arg_rates (hval 2 29 _ rfl rfl) h2 (rd_arg hsz (j:=2) rfl rfl);obtain⟨s3,rfl,a3⟩:=arg_str (hval 3 9 _ rfl rfl) h3 (rd_arg hsz (j:=3) rfl rfl);obtain⟨s4,rfl,a4⟩:=arg_str (hval 4 9 _ rfl rfl) h4 (rd_arg hsz (j:=4) rfl rfl);obtain⟨n5,rfl,a5⟩:=arg_int (hval 5 3 _ rfl rfl) h5 (rd_arg hsz (j:=5) rfl rfl);refine(partsShare_any (Here W) _ _ _ _ t0 xs1 xs2 s3 s4 n5 W a0 a1 a2 (λ_ h=>h) a3 a4 a5 (tab_of_laid7 hL)).mono λe W' ⟨he,hb⟩=> ?_
 subst he;exact⟨_,rfl,law_post hW' hAA rfl rfl (by kernel_rfl) (by kernel_rfl) hb⟩
theorem partsshare_place:(Rows.partsShareRow.inPlace==Tryz.prog.inPlace 8)=true:=by kernel_rfl
theorem partsshare_follow:(Rows.partsShareRow.unfollowed==Tryz.prog.unfollowed 8)=true:=by kernel_rfl
theorem partsshare_recurs:(Rows.partsShareRow.recurses==Tryz.prog.recurses 8)=true:=by kernel_rfl
theorem partsshare_named:(Rows.partsShareRow.named==Tryz.prog.varsNamed 8)=true:=by kernel_rfl
theorem partsshare_facts:joinedFacts Tryz.prog 8 Tryz.f8 Rows.partsShareSpec Rows.partsShareRow=true:=
 joined_parts (by kernel_rfl) laidOut p_rowed (by kernel_rfl) (by kernel_rfl) rfl p_stops rfl p_knobs partsshare_place partsshare_follow partsshare_recurs partsshare_named (by kernel_rfl) (by kernel_rfl) (by kernel_rfl) (by kernel_rfl) (by kernel_rfl) rfl (by kernel_rfl) (by kernel_rfl) (by kernel_rfl)
  p_keys rfl p_heard p_enter p_lifts p_make rfl (by kernel_rfl) (by kernel_rfl) (by kernel_rfl)
theorem partsshare_holds:Rows.PartsShareSaid:=
 OpenClaim.holds_of_wide 8 Tryz.f8 rfl rfl rfl rfl rfl rfl rfl ⟨rfl,rfl,rfl,rfl,rfl⟩ rfl rfl rfl rfl rfl (by kernel_rfl) Tryz.func8 partsshare_facts
  (of_decide_eq_true (by kernel_rfl)) (by unfold Func.isWrapper;rw[if_neg (of_decide_eq_false (by kernel_rfl))];exact⟨rfl,rfl⟩)
  (λos started H enc _=>partsshare_lifted os started H enc)
theorem partsshare_card:Rows.PartsShareCardSaid:=
 Claim7.holds_tied_plain_at .later [] [.data,.data,.data,.data,.sentinel,.sentinel,.pinned] true (true,"6153792142eb100ff59508268ab888eb745437a65818656218587bab2593252c") true
  partsshare_holds (λ_ h=>by cases h) (by kernel_rfl) (λ_ h=>by cases h) partsShare_row_tie rfl ⟨rfl,rfl⟩ (by kernel_rfl) rfl
  (λf fn hf hfn=>by
   obtain rfl:f=8:=Option.some.inj ((show Tryz.prog.funcNamed "customhouse/customhouselaw28.PartsShare" =some 8 by kernel_rfl).symm.trans hf) |>.symm;obtain rfl:fn=Tryz.f8:=(Option.some.inj (Tryz.func8.symm.trans hfn)).symm
   exact⟨by kernel_rfl,λj t ht=>by
    rw[Tryz.params8]at ht;(have hm:t∈[27,28,29,9,9,3]:=by simpa using Array.mem_of_getElem? ht);have hall:([27,28,29,9,9,3].all λu=> !Tryz.prog.wantsStandIn u)=true:=by kernel_rfl
    exact(show Tryz.prog.wantsStandIn t=false by simpa using List.all_eq_true.1 hall t hm)⟩)
  (by kernel_rfl)
end
end Go.Proofs.YtaedcjcdpckkaaaGreatDoor
