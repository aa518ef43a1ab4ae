/- Texts RV RPValues. -/
import Derived.Test.YtaedcjcdpckkaaaGreatDoorM50
import Derived.Test.YtaedcjcdpckkaaaGreatDoorCards
import Derived.Test.YtaedcjcdpckkaaaGreatDoorTie
import Derived.SevenTiedAt
set_option linter.all false
namespace Go.Proofs.YtaedcjcdpckkaaaGreatDoor
open Go.RowKit
set_option maxHeartbeats 16000000
set_option maxRecDepth 100000
section
open Go.Shelf
theorem partsValues_any(Z:Zone)(vd vl v vr:Value)(t:TarD)(l:List ProdD)(r:List RateD)(base id:ByteArray)(day:Int)(w:World)(ht:TarR Z w vd vl t)(h:Prods Z w v l)(hr:Rates Z w vr r)(hz:∀b,Z b->b<w.heap.size)
  (hbs:base.size≤140737488355328)(his:id.size≤140737488355328)(hd:I64 day)(htab:TabB w.heap.size w):
  Calls Tryz.prog 5 #[.agg #[vd,vl],v,vr,.string base,.string id,.int .i64 day] w λe w'=>e= .returned (.bool true)∧Below w.heap.size w w':=by
 have HA:=hid (ArgP.mk ht h hr hz hbs his htab);obtain⟨A,cap,hv,-,hseq⟩:=h.form;obtain⟨A2,cap2,hvl⟩:∃A2 cap2,vl= .slice A2 t.lines.length cap2:=by obtain⟨⟨A2,cap2,e,_⟩⟩:=ht.l;exact⟨A2,cap2,e⟩
 obtain⟨A3,cap3,hvd⟩:∃A3 cap3,vd= .slice A3 t.dom.length cap3:=by obtain⟨⟨A3,cap3,e,_⟩,_⟩:=ht.d;exact⟨A3,cap3,e⟩
 obtain⟨A4,cap4,hvr⟩:∃A4 cap4,vr= .slice A4 r.length cap4:=by obtain⟨⟨A4,cap4,e,_⟩,_⟩:=hr;exact⟨A4,cap4,e⟩
 have HPA:=hid (λk(hk:k<l.length)=>prod_at hseq hz hk);have HZ:=hid hz;clear ht h hr hz hbs his htab hd hseq;obtain⟨OF,hOF⟩:∃OF:ByteArray->Rt × Int,OF=λc=>valueP t l r base c day:=⟨_,rfl⟩
 have HSM:=hid (λW(hW:Below w.heap.size w W)=>small28_any Z vd vl v vr t l r base id W (HA.out.on hW).tar (HA.out.on hW).pr (HA.out.on hW).ra (HA.out.on hW).live (HA.out.on hW).bs (HA.out.on hW).is)
 have HVL:=hid (show ∀c W,Below w.heap.size w W->t.fine->Calls Tryz.prog 14 #[.agg #[vd,vl],v,vr,.string base,.string c,.int .i64 day] W λe w'=>e= .returned (.tuple #[rtE (OF c),.int .i64 (OF c).2])∧Below W.heap.size W w' from
  λc W hW hf=>by rw[hOF];exact value_any Z vd vl v vr t l r base c day W (HA.out.on hW).tar (HA.out.on hW).pr (HA.out.on hW).ra (HA.out.on hW).live hf (HA.out.on hW).bs (HA.out.on hW).tab)
 have HCH:=hid (λW(hW:Below w.heap.size w W)(hf:t.fine)=>pcheck_any Z vd vl v t l W (HA.out.on hW).tar (HA.out.on hW).pr (HA.out.on hW).live hf (HA.out.on hW).tab);have HFN:=hid (λW(hW:Below w.heap.size w W)=>find28_any Z v l id W (HA.out.on hW).pr);have HRV:=hid (λW(hW:Below w.heap.size w W)=>ratesValid_any Z vr r base W (HA.out.on hW).ra (HA.out.on hW).bs);have HCV:=hid (λcur u(hc:cur.size≤140737488355328) W(hW:Below w.heap.size w W)=>convert_any Z vr r base cur base u day W (HA.out.on hW).ra (HA.out.on hW).live (HA.out.on hW).bs hc (HA.out.on hW).bs (HA.out.on hW).tab);have HTB:=hid (λW(hW:Below w.heap.size w W)=>(HA.out.on hW).tab);subst hv hvl hvd hvr;have HNONE:=hid (show checkP t l≠0∨id∉idsP l∨validRates r base=false->(OF id).2≠0 from by rw[hOF];exact values_none);have HOWN:=hid (show ∀p,checkP t l=0->prodOf l id=some p->validRates r base=true->(convR r base p.cur p.units base day).2≠0->(OF id).2=(convR r base p.cur p.units base day).2 from by rw[hOF];exact λp=>values_own);have HSUM:=hid (show ∀p,checkP t l=0->prodOf l id=some p->validRates r base=true->(convR r base p.cur p.units base day).2=0->(sumG OF p.parts (convR r base p.cur p.units base day).1).2=decide ((OF id).2=0)∧((OF id).2=0->(OF id).1=(sumG OF p.parts (convR r base p.cur p.units base day).1).1) from by rw[hOF];exact λp=>values_sum);have HRES:=hid (show ∀c,ResOk (OF c) from by rw[hOF];exact λc=>value_res t l r base c day);clear hOF;have HFD:=hid (found_is l id);have HCNT:=hid (λ(h:checkP t l=0) k(hk:k<l.length)=>cnt_check h hk);obtain⟨V,hV0⟩:∃V,V=OF id:=⟨_,rfl⟩;have HV0:=hid (λW hW hf=>HVL.out id W hW hf);rw[<-hV0]at HV0 HNONE HOWN HSUM;clear hV0;generalize checkP t l=CK at*;generalize validRates r base=VR at*;generalize findP l id=I at*;obtain⟨dl,hdl⟩:∃dl,dl=t.dom.length:=⟨_,rfl⟩;obtain⟨nl,hnl⟩:∃nl,nl=t.lines.length:=⟨_,rfl⟩;obtain⟨rl,hrl⟩:∃rl,rl=r.length:=⟨_,rfl⟩;obtain⟨ll,hll⟩:∃ll,ll=l.length:=⟨_,rfl⟩;rw[<-hdl,<-hnl,<-hrl,<-hll]at HSM HVL HV0;rw[<-hdl,<-hnl,<-hll]at HCH;rw[<-hll]at HFN;rw[<-hrl]at HRV HCV;rw[<-hdl,<-hnl,<-hrl,<-hll];have HLL:=hid hll;clear HA hdl hnl hrl hll;have h0:=ValF.new w #[.slice A3 dl cap3,.slice A2 nl cap2] (.slice A ll cap) (.slice A4 rl cap4) base day;go_enter Tryz.func5,Tryz.ntmps5
 go_upto_region 1 with fail
 generalize (((((w.alloc (.cells #[.slice A3 dl cap3,.slice A2 nl cap2] 27)).alloc (.cells #[.slice A ll cap] 28)).alloc (.cells #[.slice A4 rl cap4] 29)).alloc (.cells #[.string base] 9)).alloc (.cells #[.int .i64 day] 3))=w0 at*;have H0:=hid h0;clear h0;go_wp2_with fail
 refine(head28_any w0 (HTB.out _ H0.out.be)).mono ?_;rintro e w1 ⟨rfl,hb⟩;have H1:=hid (H0.out.below hb);clear hb H0;have t0:=H1.out.t.at0;have t1:=H1.out.t.at1;have tl:=H1.out.t.lt;have l0:=H1.out.l.at0;have l1:=H1.out.l.lt;have r0:=H1.out.r.at0;have r1:=H1.out.r.lt;have b0:=H1.out.b.at0;have b1:=H1.out.b.lt;have d0:=H1.out.d.at0;have d1:=H1.out.d.lt;go_wp2_with fail
 refine(HSM.out w1 H1.out.be).mono ?_;rintro e w2 ⟨sb,rfl,hb,hf⟩;have H2:=hid (H1.out.below hb);have HF:=hid hf;clear hb H1 hf t0 t1 tl l0 l1 r0 r1 b0 b1 d0 d1 HSM;cases sb
 ·go_wp2_with fail
  go_ret;exact⟨rfl,H2.out.be⟩
 ·have hfine:t.fine:=HF.out (by first|exact rfl|trivial);replace HVL:=hid (λc W hW=>HVL.out c W hW hfine);replace HV0:=hid (λW hW=>HV0.out W hW hfine);replace HCH:=hid (λW hW=>HCH.out W hW hfine);clear HF hfine;have t0:=H2.out.t.at0;have t1:=H2.out.t.at1;have tl:=H2.out.t.lt;have l0:=H2.out.l.at0;have l1:=H2.out.l.lt;have r0:=H2.out.r.at0;have r1:=H2.out.r.lt;have b0:=H2.out.b.at0;have b1:=H2.out.b.lt;have d0:=H2.out.d.at0;have d1:=H2.out.d.lt;go_wp2_with fail
  refine(HV0.out w2 H2.out.be).mono ?_;obtain⟨va,vb,vc,hV⟩:=rtE_tri V;rw[hV];rintro e w3 ⟨rfl,hb⟩;have HVE:=hid hV;have hb':=hb.alloc hb.size (.cells #[.bool va,.string vb,.string vc] 37);have H3:=hid (And.intro (H2.out.below hb') (Blk.new w3 37 #[.bool va,.string vb,.string vc]));clear hb hb' H2 t0 t1 tl l0 l1 r0 r1 b0 b1 d0 d1 HV0 hV;go_upto_region 5 with fail
  generalize w3.alloc (.cells #[.bool va,.string vb,.string vc] 37)=w4 at*;generalize w3.heap.size=xv at*;obtain⟨Vr,Ve⟩:=V;dsimp only at*;have l0:=H3.out.1.l.at0;have l1:=H3.out.1.l.lt;go_wp2_with fail
  refine(HFN.out w4 H3.out.1.be).mono ?_;rintro e w5 ⟨rfl,hw⟩;subst hw;clear HFN l0 l1;have t0:=H3.out.1.t.at0;have t1:=H3.out.1.t.at1;have tl:=H3.out.1.t.lt;have l0:=H3.out.1.l.at0;have l1:=H3.out.1.l.lt;have r0:=H3.out.1.r.at0;have r1:=H3.out.1.r.lt;have b0:=H3.out.1.b.at0;have b1:=H3.out.1.b.lt;have d0:=H3.out.1.d.at0;have d1:=H3.out.1.d.lt;go_wp2_with fail
  refine(HCH.out w4 H3.out.1.be).mono ?_;rintro e w6 ⟨rfl,hb⟩;have H4:=hid (And.intro (H3.out.1.below hb) (H3.out.2.below hb H3.out.2.lt));clear hb H3 t0 t1 tl l0 l1 r0 r1 b0 b1 d0 d1 HCH;by_cases hck:CK=0
  ·subst hck;rcases HFD.out with⟨k,hk,hI,hp⟩|⟨hI,hni⟩
   ·subst hI;(have hkl:k<ll:=by rw[HLL.out];exact hk);(have hj1:((k:Nat):Int)<(ll:Int):=by omega);(have hj0:(0:Int)≤((k:Nat):Int):=by omega);obtain⟨pb,poff,CA,ccap,PA,pcap,rfl,hints,hcomp,hfit,hcells⟩:=HPA.out k hk;have HSUM1:=hid (HSUM.out l[k] (by first|exact rfl|trivial) hp);have HOWN1:=hid (HOWN.out l[k] (by first|exact rfl|trivial) hp);have HCN1:=hid (HCNT.out (by first|exact rfl|trivial) k hk);have HCM:=hid hcomp;have HCELL:=hid hcells;have HCV1:=hid (HCV.out l[k].cur l[k].units hfit.2.1);have HOR:=hid (convR_res r base l[k].cur l[k].units base day);clear hints hcomp hfit hcells HSUM HOWN HCNT HPA HCV hp hkl HFD HLL;generalize l[k]=p at*;obtain⟨pid,pcas,pcur,pun,pparts⟩:=p;dsimp only at*;generalize convR r base pcur pun base day=O at*;obtain⟨oa,ob,oc,hO⟩:=rtE_tri O;rw[hO]at HCV1;have HOE:=hid hO;clear hO hk;have t0:=H4.out.1.t.at0;have t1:=H4.out.1.t.at1;have tl:=H4.out.1.t.lt;have l0:=H4.out.1.l.at0;have l1:=H4.out.1.l.lt;have r0:=H4.out.1.r.at0;have r1:=H4.out.1.r.lt;have b0:=H4.out.1.b.at0;have b1:=H4.out.1.b.lt;have d0:=H4.out.1.d.at0;have d1:=H4.out.1.d.lt;(go_wp2_with fail);refine(HRV.out w6 H4.out.1.be).mono ?_;rintro e w7 ⟨rfl,hb⟩;have H5:=hid (And.intro (H4.out.1.below hb) (H4.out.2.below hb H4.out.2.lt));clear hb H4 t0 t1 tl l0 l1 r0 r1 b0 b1 d0 d1 HRV;cases VR
    ·(have hve:(Ve !=0)=true:=by simpa using HNONE.out (Or.inr (Or.inr rfl)));(go_wp2_with fail);go_ret;first|exact⟨rfl,H5.out.1.be⟩|exact⟨(show Ending.returned (Value.bool (Ve !=0))=_ from by rw[hve]),H5.out.1.be⟩
    ·replace HSUM1:=hid (HSUM1.out (by first|exact rfl|trivial));replace HOWN1:=hid (HOWN1.out (by first|exact rfl|trivial));(go_upto_region 8 with fail);go_cut[17,18] from 62 to 74 (λvp ve wx=>∃bx,vp= .pointer (some ⟨bx,0,none⟩)∧ve= .int .i64 O.2∧Blk wx bx 37 #[.bool oa,.string ob,.string oc]∧w7.heap.size≤bx∧Below w7.heap.size w7 wx)
     case first=>
      have HC:=hid (λ(W:World)(hW:Below w7.heap.size w7 W)=>(show W.cell? ⟨w.heap.size+1+1,0,none⟩=some (.slice A4 rl cap4)∧W.cell? ⟨w.heap.size+1+1+1,0,none⟩=some (.string base)∧W.cell? ⟨w.heap.size+1,0,none⟩=some (.slice (some ⟨pb,poff,none⟩) ll cap)∧W.cell? ⟨w.heap.size+1+1+1+1,0,none⟩=some (.int .i64 day)∧
        W.cell? ⟨pb,poff+k*5,none⟩=some (.string pid)∧W.cell? ⟨pb,poff+k*5+1,none⟩=some (.slice CA pcas.length ccap)∧W.cell? ⟨pb,poff+k*5+2,none⟩=some (.string pcur)∧W.cell? ⟨pb,poff+k*5+3,none⟩=some (.int .i64 pun)∧W.cell? ⟨pb,poff+k*5+4,none⟩=some (.slice PA pparts.length pcap) from by
       have h1:=H5.out.1.below hW
       exact⟨h1.r.at0,h1.b.at0,h1.l.at0,h1.d.at0,HCELL.out W h1.be⟩))
      refine wp_region_S 14 (λW=>Below w7.heap.size w7 W) (by kernel_rfl) ?_;have hB0:Below w7.heap.size w7 w7.drew:=(Below.refl _ _).drew;have hS:(λW=>Below w7.heap.size w7 W) w7.drew:=hB0;generalize w7.drew=x0 at*
      (refine tkS 0 ?_ hS ?_ ?_;rotate_left;intro w hkw;obtain⟨r0,b0,l0,d0,p0,p1,p2,p3,p4⟩:=HC.out _ hkw;clear hkw;go_simp;(try with_reducible rfl);simp only[nr])
      (refine tkS 1 ?_ hS ?_ ?_;rotate_left;intro w hkw;obtain⟨r0,b0,l0,d0,p0,p1,p2,p3,p4⟩:=HC.out _ hkw;clear hkw;go_simp;(try with_reducible rfl);simp only[nr])
      (refine tkS 2 ?_ hS ?_ ?_;rotate_left;intro w hkw;obtain⟨r0,b0,l0,d0,p0,p1,p2,p3,p4⟩:=HC.out _ hkw;clear hkw;go_simp;(try with_reducible rfl);simp only[nr])
      (refine tkZ 3 ?_ hS ?_ ?_;rotate_left;intro w;go_simp;(try with_reducible rfl);simp only[nr])
      (refine tkZ 4 ?_ hS ?_ ?_;rotate_left;intro w;go_simp;(try with_reducible rfl);simp only[nr])
      (refine tkZ 5 ?_ hS ?_ ?_;rotate_left;intro w;go_simp;(try with_reducible rfl);simp only[nr])
      (refine tkS 6 ?_ hS ?_ ?_;rotate_left;intro w hkw;obtain⟨r0,b0,l0,d0,p0,p1,p2,p3,p4⟩:=HC.out _ hkw;clear hkw;go_simp;(try with_reducible rfl);simp only[nr])
      (refine tkS 7 ?_ hS ?_ ?_;rotate_left;intro w hkw;obtain⟨r0,b0,l0,d0,p0,p1,p2,p3,p4⟩:=HC.out _ hkw;clear hkw;go_simp;(try with_reducible rfl);simp only[nr])
      (refine tkS 8 ?_ hS ?_ ?_;rotate_left;intro w hkw;obtain⟨r0,b0,l0,d0,p0,p1,p2,p3,p4⟩:=HC.out _ hkw;clear hkw;go_simp;(try with_reducible rfl);simp only[nr])
      clear hS;refine wS2 9 13 (λK hK=> ?_) (λK hK=> ?_)
      ·(go_wp2_with fail);refine(HCV1.out _ (HBEL_trans H5.out.1.be hB0)).mono ?_;rintro e x1 ⟨rfl,hb⟩;have hB1:Below w7.heap.size w7 x1:=hB0.trans (hb.mono hB0.size);refine hK _ _ (Or.inr hB1) ?_;clear hK K hb
       (try simp only[nr])
       have hS:(λW=>Below w7.heap.size w7 W) x1:=hB1
       (refine tkZ 10 ?_ hS ?_ ?_;rotate_left;intro w;go_simp;(try with_reducible rfl);simp only[nr])
       (refine tkZ 11 ?_ hS ?_ ?_;rotate_left;intro w;go_simp;(try with_reducible rfl);simp only[nr])
       (refine tkZ 12 ?_ hS ?_ ?_;rotate_left;intro w;go_simp;(try with_reducible rfl);simp only[nr])
       clear hS;refine wS1 13 (λK hK=> ?_);(go_wp2_with fail);refine hK _ _ (Or.inr (hB1.alloc hB1.size _)) ?_;clear hK K
       (try simp only[nr])
       have hB2:Below w7.heap.size w7 (x1.alloc (.cells #[.bool false,.string ⟨#[]⟩,.string ⟨#[]⟩] 37)):=hB1.alloc hB1.size _;have hX2:=Blk.new x1 37 #[.bool false,.string ⟨#[]⟩,.string ⟨#[]⟩];generalize x1.alloc (.cells #[.bool false,.string ⟨#[]⟩,.string ⟨#[]⟩] 37)=x2 at*;refine wS1 14 (λK hK=> ?_);have c0:=hX2.at0;have c1:=hX2.at1;have c2:=hX2.at2;have g0:=hX2.frozen 0;have g1:=hX2.frozen 1;have g2:=hX2.frozen 2;have cl:=hX2.lt;have HXX:=hid hX2;clear hX2;(go_wp2_with fail);refine hK _ _ (Or.inl rfl) ?_;clear hK K
       (try simp only[nr])
       refine wS1 15 (λK hK=> ?_);(go_wp2_with fail);refine hK _ _ (Or.inl rfl) ?_;clear hK K
       (try simp only[nr])
       refine wSd ?_ _;(go_wp2_with fail);go_meet;exact⟨x1.heap.size,rfl,rfl,((HXX.out.set_ 0 _).set_ 1 _).set_ 2 _,hB1.size,((hB2.setCell hB1.size _).setCell hB1.size _).setCell hB1.size _⟩
      ·(go_wp2_with fail);refine hK _ _ (Or.inr (hB0.alloc hB0.size _)) ?_;clear hK K
       (try simp only[nr])
       have hB1:Below w7.heap.size w7 (x0.alloc (.cells #[.bool false,.string ⟨#[]⟩,.string ⟨#[]⟩] 37)):=hB0.alloc hB0.size _;have hX1:=Blk.new x0 37 #[.bool false,.string ⟨#[]⟩,.string ⟨#[]⟩];generalize x0.alloc (.cells #[.bool false,.string ⟨#[]⟩,.string ⟨#[]⟩] 37)=x1 at*;refine wS1 9 (λK hK=> ?_);(go_wp2_with fail);refine(HCV1.out _ (HBEL_trans H5.out.1.be hB1)).mono ?_;rintro e x2 ⟨rfl,hb⟩;have hB2:Below w7.heap.size w7 x2:=hB1.trans (hb.mono hB1.size);have hX2:=hX1.below hb hX1.lt;refine hK _ _ (Or.inr hB2) ?_;clear hK K hb
       (try simp only[nr])
       have hS:(λW=>Below w7.heap.size w7 W) x2:=hB2
       (refine tkZ 10 ?_ hS ?_ ?_;rotate_left;intro w;go_simp;(try with_reducible rfl);simp only[nr])
       (refine tkZ 11 ?_ hS ?_ ?_;rotate_left;intro w;go_simp;(try with_reducible rfl);simp only[nr])
       (refine tkZ 12 ?_ hS ?_ ?_;rotate_left;intro w;go_simp;(try with_reducible rfl);simp only[nr])
       clear hS;refine wS1 14 (λK hK=> ?_);have c0:=hX2.at0;have c1:=hX2.at1;have c2:=hX2.at2;have g0:=hX2.frozen 0;have g1:=hX2.frozen 1;have g2:=hX2.frozen 2;have cl:=hX2.lt;have HXX:=hid hX2;clear hX2;(go_wp2_with fail);refine hK _ _ (Or.inl rfl) ?_;clear hK K
       (try simp only[nr])
       refine wS1 15 (λK hK=> ?_);(go_wp2_with fail);refine hK _ _ (Or.inl rfl) ?_;clear hK K
       (try simp only[nr])
       refine wSd ?_ _;(go_wp2_with fail);go_meet;exact⟨x0.heap.size,rfl,rfl,((HXX.out.set_ 0 _).set_ 1 _).set_ 2 _,hB0.size,((hB2.setCell hB0.size _).setCell hB0.size _).setCell hB0.size _⟩
     case rest=>
      obtain⟨xo,rfl,rfl,hx,hxl,hb⟩:=hcut;have H6:=hid (And.intro (H5.out.1.below hb) (And.intro (H5.out.2.below hb H5.out.2.lt) hx));clear hb hx hxl H5 HCV1;(rename World=>w8);obtain⟨Or',Oe⟩:=O;dsimp only at*;by_cases hoe:Oe=0
      ·subst hoe;have hor:RtOk Or':=HOR.out rfl;have hov:rtV Or'= .agg #[.bool oa,.string ob,.string oc]:=HOE.out;have HS1:=hid (HSUM1.out rfl)
       have HSC:=hid (λX(hX:Below w8.heap.size w8 X)=>sum28_any 28 #[.pointer (some ⟨w.heap.size,0,none⟩),.pointer (some ⟨w.heap.size+1,0,none⟩),.pointer (some ⟨w.heap.size+1+1,0,none⟩),.pointer (some ⟨w.heap.size+1+1+1,0,none⟩),.pointer (some ⟨w.heap.size+1+1+1+1,0,none⟩)] Tryz.egvaluesC Z pid pcur CA pcas.length ccap pun PA pcap pparts Or' OF X hor (HCM.out.keep (Keeps.of_below (HBEL_trans H6.out.1.be hX)))
        (λb hb=>Nat.lt_of_lt_of_le (HZ.out b hb) (HBEL_trans H6.out.1.be hX).size) HCN1.out (λc _=>HRES.out c.prod) (HTB.out X (HBEL_trans H6.out.1.be hX)) (λW hW c _=>valuesC_any (some ⟨pb,poff,none⟩) A2 A3 A4 ll cap nl cap2 dl cap3 rl cap4 base day OF w W (H6.out.1.below (HBEL_trans hX hW)) c.prod (λY hY=>HVL.out c.prod Y hY)))
       rw[hov]at HSC;have HOV:=hid hov;clear HSUM1 HOWN1 HOR HOE HVL HCM HCN1 HRES hor hov;generalize sumG OF pparts Or'=S at*;(go_upto_region 11 with fail);go_cut[19,20] from 83 to 92 (λvp ve wx=>∃bx sa sb sc,vp= .pointer (some ⟨bx,0,none⟩)∧ve= .bool S.2∧Blk wx bx 37 #[.bool sa,.string sb,.string sc]∧w8.heap.size≤bx∧(S.2=true-> .agg #[.bool sa,.string sb,.string sc]=rtV S.1)∧Below w8.heap.size w8 wx)
       case first=>
        have HC:=hid (λ(W:World)(hW:Below w8.heap.size w8 W)=>(show W.cell? ⟨xo,0,none⟩=some (.bool oa)∧W.cell? ⟨xo,1,none⟩=some (.string ob)∧W.cell? ⟨xo,2,none⟩=some (.string oc)∧W.cell? ⟨w.heap.size+1,0,none⟩=some (.slice (some ⟨pb,poff,none⟩) ll cap)∧
          W.cell? ⟨pb,poff+k*5,none⟩=some (.string pid)∧W.cell? ⟨pb,poff+k*5+1,none⟩=some (.slice CA pcas.length ccap)∧W.cell? ⟨pb,poff+k*5+2,none⟩=some (.string pcur)∧W.cell? ⟨pb,poff+k*5+3,none⟩=some (.int .i64 pun)∧W.cell? ⟨pb,poff+k*5+4,none⟩=some (.slice PA pparts.length pcap) from by
         have h1:=H6.out.1.below hW;have h2:=H6.out.2.2.below hW H6.out.2.2.lt
         exact⟨h2.at0,h2.at1,h2.at2,h1.l.at0,HCELL.out W h1.be⟩))
        refine wp_region_S 11 (λW=>Below w8.heap.size w8 W) (by kernel_rfl) ?_;have hB0:Below w8.heap.size w8 w8.drew:=(Below.refl _ _).drew;have hS:(λW=>Below w8.heap.size w8 W) w8.drew:=hB0;generalize w8.drew=x0 at*
        (refine tkS 0 ?_ hS ?_ ?_;rotate_left;intro w hkw;obtain⟨o0,o1,o2,l0,p0,p1,p2,p3,p4⟩:=HC.out _ hkw;clear hkw;go_simp;(try with_reducible rfl);simp only[nr])
        (refine tkS 1 ?_ hS ?_ ?_;rotate_left;intro w hkw;obtain⟨o0,o1,o2,l0,p0,p1,p2,p3,p4⟩:=HC.out _ hkw;clear hkw;go_simp;(try with_reducible rfl);simp only[nr])
        (refine tkZ 2 ?_ hS ?_ ?_;rotate_left;intro w;go_simp;(try with_reducible rfl);simp only[nr])
        (refine tkZ 3 ?_ hS ?_ ?_;rotate_left;intro w;go_simp;(try with_reducible rfl);simp only[nr])
        (refine tkS 4 ?_ hS ?_ ?_;rotate_left;intro w hkw;obtain⟨o0,o1,o2,l0,p0,p1,p2,p3,p4⟩:=HC.out _ hkw;clear hkw;go_simp;(try with_reducible rfl);simp only[nr])
        (refine tkZ 5 ?_ hS ?_ ?_;rotate_left;intro w;go_simp;(try with_reducible rfl);simp only[nr])
        clear hS;refine wS2 6 10 (λK hK=> ?_) (λK hK=> ?_)
        ·(go_wp2_with fail);refine(HSC.out _ hB0).mono ?_;rintro e x1 ⟨sa,sb,sc,rfl,hsv,hb⟩;have hB1:Below w8.heap.size w8 x1:=hB0.trans (hb.mono hB0.size);have HSV:=hid hsv;clear hsv;refine hK _ _ (Or.inr hB1) ?_;clear hK K hb
         (try simp only[nr])
         have hS:(λW=>Below w8.heap.size w8 W) x1:=hB1
         (refine tkZ 7 ?_ hS ?_ ?_;rotate_left;intro w;go_simp;(try with_reducible rfl);simp only[nr])
         (refine tkZ 8 ?_ hS ?_ ?_;rotate_left;intro w;go_simp;(try with_reducible rfl);simp only[nr])
         (refine tkZ 9 ?_ hS ?_ ?_;rotate_left;intro w;go_simp;(try with_reducible rfl);simp only[nr])
         clear hS;refine wS1 10 (λK hK=> ?_);(go_wp2_with fail);refine hK _ _ (Or.inr (hB1.alloc hB1.size _)) ?_;clear hK K
         (try simp only[nr])
         have hB2:Below w8.heap.size w8 (x1.alloc (.cells #[.bool false,.string ⟨#[]⟩,.string ⟨#[]⟩] 37)):=hB1.alloc hB1.size _;have hX2:=Blk.new x1 37 #[.bool false,.string ⟨#[]⟩,.string ⟨#[]⟩];generalize x1.alloc (.cells #[.bool false,.string ⟨#[]⟩,.string ⟨#[]⟩] 37)=x2 at*;refine wS1 11 (λK hK=> ?_);have c0:=hX2.at0;have c1:=hX2.at1;have c2:=hX2.at2;have g0:=hX2.frozen 0;have g1:=hX2.frozen 1;have g2:=hX2.frozen 2;have cl:=hX2.lt;have HXX:=hid hX2;clear hX2;(go_wp2_with fail);refine hK _ _ (Or.inl rfl) ?_;clear hK K
         (try simp only[nr])
         refine wS1 12 (λK hK=> ?_);(go_wp2_with fail);refine hK _ _ (Or.inl rfl) ?_;clear hK K
         (try simp only[nr])
         refine wSd ?_ _;(go_wp2_with fail);go_meet;exact⟨x1.heap.size,sa,sb,sc,rfl,rfl,((HXX.out.set_ 0 _).set_ 1 _).set_ 2 _,hB1.size,HSV.out,((hB2.setCell hB1.size _).setCell hB1.size _).setCell hB1.size _⟩
        ·(go_wp2_with fail);refine hK _ _ (Or.inr (hB0.alloc hB0.size _)) ?_;clear hK K
         (try simp only[nr])
         have hB1:Below w8.heap.size w8 (x0.alloc (.cells #[.bool false,.string ⟨#[]⟩,.string ⟨#[]⟩] 37)):=hB0.alloc hB0.size _;have hX1:=Blk.new x0 37 #[.bool false,.string ⟨#[]⟩,.string ⟨#[]⟩];generalize x0.alloc (.cells #[.bool false,.string ⟨#[]⟩,.string ⟨#[]⟩] 37)=x1 at*;refine wS1 6 (λK hK=> ?_);(go_wp2_with fail);refine(HSC.out _ hB1).mono ?_;rintro e x2 ⟨sa,sb,sc,rfl,hsv,hb⟩;have hB2:Below w8.heap.size w8 x2:=hB1.trans (hb.mono hB1.size);have HSV:=hid hsv;clear hsv;have hX2:=hX1.below hb hX1.lt;refine hK _ _ (Or.inr hB2) ?_;clear hK K hb
         (try simp only[nr])
         have hS:(λW=>Below w8.heap.size w8 W) x2:=hB2
         (refine tkZ 7 ?_ hS ?_ ?_;rotate_left;intro w;go_simp;(try with_reducible rfl);simp only[nr])
         (refine tkZ 8 ?_ hS ?_ ?_;rotate_left;intro w;go_simp;(try with_reducible rfl);simp only[nr])
         (refine tkZ 9 ?_ hS ?_ ?_;rotate_left;intro w;go_simp;(try with_reducible rfl);simp only[nr])
         clear hS;refine wS1 11 (λK hK=> ?_);have c0:=hX2.at0;have c1:=hX2.at1;have c2:=hX2.at2;have g0:=hX2.frozen 0;have g1:=hX2.frozen 1;have g2:=hX2.frozen 2;have cl:=hX2.lt;have HXX:=hid hX2;clear hX2;(go_wp2_with fail);refine hK _ _ (Or.inl rfl) ?_;clear hK K
         (try simp only[nr])
         refine wS1 12 (λK hK=> ?_);(go_wp2_with fail);refine hK _ _ (Or.inl rfl) ?_;clear hK K
         (try simp only[nr])
         refine wSd ?_ _;(go_wp2_with fail);go_meet;exact⟨x0.heap.size,sa,sb,sc,rfl,rfl,((HXX.out.set_ 0 _).set_ 1 _).set_ 2 _,hB0.size,HSV.out,((hB2.setCell hB0.size _).setCell hB0.size _).setCell hB0.size _⟩
       case rest=>
        obtain⟨xs,sa,sb,sc,rfl,rfl,hx,hxl,hsv,hb⟩:=hcut;have H7:=hid (And.intro (H6.out.1.below hb) (And.intro (H6.out.2.1.below hb H6.out.2.1.lt) hx));have HSV:=hid hsv;clear hb hx hxl hsv H6 HSC;(rename World=>w9);obtain⟨Sr,Sb⟩:=S;dsimp only at*;by_cases hve:Ve=0
        ·subst hve;obtain⟨e1,e2⟩:=HS1.out;replace e2:=e2 (by first|exact rfl|trivial);have e1':Sb=true:=e1;subst e1' e2;have hv:rtV Vr= .agg #[.bool va,.string vb,.string vc]:=HVE.out;have hs:=HSV.out (by first|exact rfl|trivial);have HXV:=hid hv;have HXS:=hid hs;clear hv hs e1 HS1 HSV HVE;have x0:=H7.out.2.1.at0;have x1:=H7.out.2.1.at1;have x2:=H7.out.2.1.at2;have xl:=H7.out.2.1.lt;have y0:=H7.out.2.2.at0;have y1:=H7.out.2.2.at1;have y2:=H7.out.2.2.at2;have yl:=H7.out.2.2.lt;go_wp2_with(refine wpList_eqRw (by kernel_rfl) _ _ rfl Vr Vr HXV.out.symm HXS.out ?_;rw[decide_eq_true rfl]);go_ret;exact⟨rfl,H7.out.1.be⟩
        ·(have hve':(Ve==0)=false:=by simpa using hve);have e1:Sb=false:=HS1.out.1.trans (decide_eq_false hve);subst e1;(go_wp2_with fail);go_ret;exact⟨rfl,H7.out.1.be⟩
      ·(have hoe':(Oe==0)=false:=by simpa using hoe);have hve:Ve=Oe:=HOWN1.out hoe;subst hve;(go_wp2_with fail);go_ret;exact⟨rfl,H6.out.1.be⟩
   ·subst hI;(have hve:(Ve !=0)=true:=by simpa using HNONE.out (Or.inr (Or.inl hni)));clear hni;(go_wp2_with fail);go_ret;first|exact⟨rfl,H4.out.1.be⟩|exact⟨(show Ending.returned (Value.bool (Ve !=0))=_ from by rw[hve]),H4.out.1.be⟩
  ·(have hck':(CK !=0)=true:=by simpa using hck);(have hve:(Ve !=0)=true:=by simpa using HNONE.out (Or.inl hck));clear hck HFD;(go_wp2_with fail);go_ret;first|exact⟨rfl,H4.out.1.be⟩|exact⟨(show Ending.returned (Value.bool (Ve !=0))=_ from by rw[hve]),H4.out.1.be⟩
end
section
open Go.ChangeShapes Go.WideShapes Go.ChangeAt
theorem partsvalues_lifted(os:Os)(started:os.Started)(H:Type)(enc:TypeId × Value->H):
  ReturnsInHanded {} Tryz.checked os 5 .any (λw args=>(Rows.partsValuesSpec.pre enc Tryz.prog Tryz.f5 [] false w args∧laidMetH Tryz.prog laid7 w)∧sizedMet enc Tryz.prog Tryz.f5 (OpenSpec.ofChange Rows.partsValuesSpec) false w args)
   (Rows.partsValuesSpec.post enc Tryz.prog Tryz.f5 false true false false):=by
 refine returnsInHanded_of_change_and (C:=Tryz.checked) (X:=λw _=>laidMetH Tryz.prog laid7 w) (λ_ _ _ hh h=>h.of_heap hh) own started (by kernel_rfl) Tryz.func5
  (ChangeSpec.witness_shaped (enc:=enc) (C:=Tryz.checked) (os:=os) (X:=λw _=>laidMetH Tryz.prog laid7 w) false (World.laidAll Tryz.prog os laid7) #[.agg #[.slice none 0 0,.slice none 0 0],.slice none 0 0,.slice none 0 0,.string ByteArray.empty,.string ByteArray.empty,.int .i64 0] 8 (World.laidAll_os _ _ _) (laid_shape7 os) (by kernel_rfl) (by kernel_rfl) (by kernel_rfl) (laid_met7 os _)) ?_
 intro W base args ds gs before hval0 hW _ hsz0 hL _;have hval:∀(j:Nat) t v,Tryz.f5.params[j]? =some t->args[j]? =some v->Value.okWide Tryz.prog W .any base t v:=hval0;have hW':=hW;obtain⟨p,q,hA0,hV,rfl,-,-⟩:=hW;have hA:DataW.TrodAll enc Tryz.prog W 0 (λ_=>true) true Tryz.f5.params.toList args.toList ds p:=hA0;have hsz:(DataW.weightsEach Tryz.prog (Tryz.f5.params.toList++Rows.partsValuesSpec.plain.varTypes Tryz.prog) (ds++gs)).all (· ≤reachBytes)=true:=hsz0;clear hA0 hsz0 hval0;obtain⟨rfl,rfl⟩:=trodVars_none hV;simp only[List.append_nil]at hW';have hAA:=hA;rw[Tryz.params5]at hA hval hsz;obtain⟨v0,vs0,d0,ds0,p0,q0,hargs,rfl,rfl,h0,r0⟩:=trodAll_cons hA;obtain⟨v1,vs1,d1,ds1,p1,q1,rfl,rfl,rfl,h1,r1⟩:=trodAll_cons r0;obtain⟨v2,vs2,d2,ds2,p2,q2,rfl,rfl,rfl,h2,r2⟩:=trodAll_cons r1;obtain⟨v3,vs3,d3,ds3,p3,q3,rfl,rfl,rfl,h3,r3⟩:=trodAll_cons r2;obtain⟨v4,vs4,d4,ds4,p4,q4,rfl,rfl,rfl,h4,r4⟩:=trodAll_cons r3;obtain⟨v5,vs5,d5,ds5,p5,q5,rfl,rfl,rfl,h5,r5⟩:=trodAll_cons r4;obtain⟨rfl,rfl,rfl⟩:=trodAll_nil r5;obtain rfl:args=#[v0,v1,v2,v3,v4,v5]:=by simpa using congrArg List.toArray hargs
 obtain⟨x0,y0,t0,rfl,a0⟩:=arg_tar (hval 0 27 _ rfl rfl) h0 (rd_arg hsz (j:=0) rfl rfl);obtain⟨xs1,a1⟩:=arg_prods (hval 1 28 _ rfl rfl) h1 (rd_arg hsz (j:=1) rfl rfl);obtain⟨xs2,a2⟩:=arg_rates (hval 2 29 _ rfl rfl) h2 (rd_arg hsz (j:=2) rfl rfl);obtain⟨s3,rfl,a3⟩:=arg_str (hval 3 9 _ rfl rfl) h3 (rd_arg hsz (j:=3) rfl rfl);obtain⟨s4,rfl,a4⟩:=arg_str (hval 4 9 _ rfl rfl) h4 (rd_arg hsz (j:=4) rfl rfl);obtain⟨n5,rfl,a5⟩:=arg_int (hval 5 3 _ rfl rfl) h5 (rd_arg hsz (j:=5) rfl rfl);refine(partsValues_any (Here W) _ _ _ _ t0 xs1 xs2 s3 s4 n5 W a0 a1 a2 (λ_ h=>h) a3 a4 a5 (tab_of_laid7 hL)).mono λe W' ⟨he,hb⟩=> ?_
 subst he;exact⟨_,rfl,law_post hW' hAA rfl rfl (by kernel_rfl) (by kernel_rfl) hb⟩
theorem partsvalues_place:(Rows.partsValuesRow.inPlace==Tryz.prog.inPlace 5)=true:=by kernel_rfl
theorem partsvalues_follow:(Rows.partsValuesRow.unfollowed==Tryz.prog.unfollowed 5)=true:=by kernel_rfl
theorem partsvalues_recurs:(Rows.partsValuesRow.recurses==Tryz.prog.recurses 5)=true:=by kernel_rfl
theorem partsvalues_named:(Rows.partsValuesRow.named==Tryz.prog.varsNamed 5)=true:=by kernel_rfl
theorem partsvalues_facts:joinedFacts Tryz.prog 5 Tryz.f5 Rows.partsValuesSpec Rows.partsValuesRow=true:=
 joined_parts (by kernel_rfl) laidOut p_rowed (by kernel_rfl) (by kernel_rfl) rfl p_stops rfl p_knobs partsvalues_place partsvalues_follow partsvalues_recurs partsvalues_named (by kernel_rfl) (by kernel_rfl) (by kernel_rfl) (by kernel_rfl) (by kernel_rfl) rfl (by kernel_rfl) (by kernel_rfl) (by kernel_rfl)
  p_keys rfl p_heard p_enter p_lifts p_make rfl (by kernel_rfl) (by kernel_rfl) (by kernel_rfl)
theorem partsvalues_holds:Rows.PartsValuesSaid:=
 OpenClaim.holds_of_wide 5 Tryz.f5 rfl rfl rfl rfl rfl rfl rfl ⟨rfl,rfl,rfl,rfl,rfl⟩ rfl rfl rfl rfl rfl (by kernel_rfl) Tryz.func5 partsvalues_facts
  (of_decide_eq_true (by kernel_rfl)) (by unfold Func.isWrapper;rw[if_neg (of_decide_eq_false (by kernel_rfl))];exact⟨rfl,rfl⟩)
  (λos started H enc _=>partsvalues_lifted os started H enc)
theorem partsvalues_card:Rows.PartsValuesCardSaid:=
 Claim7.holds_tied_plain_at .later [] [.data,.data,.data,.data,.sentinel,.sentinel,.pinned] true (true,"6153792142eb100ff59508268ab888eb745437a65818656218587bab2593252c") true
  partsvalues_holds (λ_ h=>by cases h) (by kernel_rfl) (λ_ h=>by cases h) partsValues_row_tie rfl ⟨rfl,rfl⟩ (by kernel_rfl) rfl
  (λf fn hf hfn=>by
   obtain rfl:f=5:=Option.some.inj ((show Tryz.prog.funcNamed "customhouse/customhouselaw28.PartsValues" =some 5 by kernel_rfl).symm.trans hf) |>.symm;obtain rfl:fn=Tryz.f5:=(Option.some.inj (Tryz.func5.symm.trans hfn)).symm
   exact⟨by kernel_rfl,λj t ht=>by
    rw[Tryz.params5]at ht;(have hm:t∈[27,28,29,9,9,3]:=by simpa using Array.mem_of_getElem? ht);have hall:([27,28,29,9,9,3].all λu=> !Tryz.prog.wantsStandIn u)=true:=by kernel_rfl
    exact(show Tryz.prog.wantsStandIn t=false by simpa using List.all_eq_true.1 hall t hm)⟩)
  (by kernel_rfl)
end
end Go.Proofs.YtaedcjcdpckkaaaGreatDoor
