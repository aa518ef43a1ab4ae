/- Texts RW RPControlled. -/
import Derived.Test.YtaedcjcdpckkaaaGreatDoorM50
import Derived.Test.YtaedcjcdpckkaaaGreatDoorCards
import Derived.Test.YtaedcjcdpckkaaaGreatDoorTie
import Derived.SevenTiedAt
set_option linter.all false
namespace Go.Proofs.YtaedcjcdpckkaaaGreatDoor
open Go.RowKit
set_option maxHeartbeats 16000000
set_option maxRecDepth 100000
section
open Go.Shelf
theorem line_at{Z:Zone}{w:World}{A:Option Addr}{l:List LineD}(hs:SeqR (LineR Z w) 7 Z w l A)(hz:∀b,Z b->b<w.heap.size){k:Nat}(hk:k<l.length):
  ∃pb poff,A=some ⟨pb,poff,none⟩∧∀W,Below w.heap.size w W->W.cell? ⟨pb,poff+k*7+6,none⟩=some (.bool l[k].ctl):=by
 obtain⟨b,off,cs,rfl,hzb,hc,hr⟩:=hs.at_ hk;obtain⟨LA,lcap,rfl,-⟩:=hr.form;exact⟨b,off,rfl,λW hW=>cells_below hW (hz b hzb) hc 6 _ rfl⟩
theorem ctl_line{t:TarD}{c:List Int}(h:lineOf t c<t.lines.length):ctlLine t c=t.lines[lineOf t c].ctl :=by
 unfold ctlLine;rw[List.getElem?_eq_getElem h]
theorem ctl_count{t:TarD}{l:List ProdD}{r:List RateD}{base id:ByteArray}{day:Int}(h:(controlP t l r base id day).2=0){k:Nat}(hk:k<l.length):∀c∈l[k].parts,-10000≤c.cnt∧c.cnt≤10000:=
 cnt_check (openE_ok (controlP_ok h).1).1 hk
theorem cmp_neg{c v:Rt}(hc:Low c)(hv:Low v)(hle:c.toQ≤v.toQ)(h:(cmpR c v).2=0):(cmpR c v).1≤0:=by
 rcases cmpR_eq hc hv h with⟨_,e⟩|⟨_,e⟩|⟨h1,_⟩
 ·omega
 ·omega
 ·exact absurd hle (Rat.not_le.2 h1)
theorem zero_rt0:ofR 0 1=rt0:=by decide+kernel
theorem neg_of{c:Rt}{a:Bool}{x y:ByteArray}(h:rtV c= .agg #[.bool a,.string x,.string y])(hn:c.neg=false):a=false:=by
 unfold rtV at h;injection h with h;simp at h;rw[<-h.1,hn]
theorem partsControlled_any(Z:Zone)(vd vl v vr:Value)(t:TarD)(l:List ProdD)(r:List RateD)(base id:ByteArray)(day:Int)(w:World)(ht:TarR Z w vd vl t)(h:Prods Z w v l)(hr:Rates Z w vr r)(hz:∀b,Z b->b<w.heap.size)
  (hbs:base.size≤140737488355328)(his:id.size≤140737488355328)(hd:I64 day)(htab:TabB w.heap.size w):
  Calls Tryz.prog 7 #[.agg #[vd,vl],v,vr,.string base,.string id,.int .i64 day] w λe w'=>e= .returned (.bool true)∧Below w.heap.size w w':=by
 have HA:=hid (ArgP.mk ht h hr hz hbs his htab);obtain⟨A,cap,hv,-,hseq⟩:=h.form;obtain⟨A2,cap2,hvl,hlseq⟩:∃A2 cap2,vl= .slice A2 t.lines.length cap2∧SeqR (LineR Z w) 7 Z w t.lines A2:=by obtain⟨⟨A2,cap2,e,_,_,_,hs⟩⟩:=ht.l;exact⟨A2,cap2,e,hs⟩
 obtain⟨A3,cap3,hvd⟩:∃A3 cap3,vd= .slice A3 t.dom.length cap3:=by obtain⟨⟨A3,cap3,e,_⟩,_⟩:=ht.d;exact⟨A3,cap3,e⟩
 obtain⟨A4,cap4,hvr⟩:∃A4 cap4,vr= .slice A4 r.length cap4:=by obtain⟨⟨A4,cap4,e,_⟩,_⟩:=hr;exact⟨A4,cap4,e⟩
 have HPA:=hid (λk(hk:k<l.length)=>prod_at hseq hz hk);have HLA:=hid (λk(hk:k<t.lines.length)=>line_at hlseq hz hk);have HZ:=hid hz;clear ht h hr hz hbs his htab hd hseq hlseq;obtain⟨CF,hCF⟩:∃CF:ByteArray->Rt × Int,CF=λc=>controlP t l r base c day:=⟨_,rfl⟩
 have HSM:=hid (λW(hW:Below w.heap.size w W)=>small28_any Z vd vl v vr t l r base id W (HA.out.on hW).tar (HA.out.on hW).pr (HA.out.on hW).ra (HA.out.on hW).live (HA.out.on hW).bs (HA.out.on hW).is)
 have HCT:=hid (show ∀c W,Below w.heap.size w W->t.fine->Calls Tryz.prog 19 #[.agg #[vd,vl],v,vr,.string base,.string c,.int .i64 day] W λe w'=>e= .returned (.tuple #[rtE (CF c),.int .i64 (CF c).2])∧Below W.heap.size W w' from
  λc W hW hf=>by rw[hCF];exact controlled_any Z vd vl v vr t l r base c day W (HA.out.on hW).tar (HA.out.on hW).pr (HA.out.on hW).ra (HA.out.on hW).live hf (HA.out.on hW).bs (HA.out.on hW).tab)
 have HVL:=hid (λW(hW:Below w.heap.size w W)(hf:t.fine)=>value_any Z vd vl v vr t l r base id day W (HA.out.on hW).tar (HA.out.on hW).pr (HA.out.on hW).ra (HA.out.on hW).live hf (HA.out.on hW).bs (HA.out.on hW).tab);have HFN:=hid (λW(hW:Below w.heap.size w W)=>find28_any Z v l id W (HA.out.on hW).pr);have HCL:=hid (λcas vc(hc:Ints Z w vc cas) W(hW:Below w.heap.size w W)(hf:t.fine)=>classify_any Z Z vd vl vc t cas W (HA.out.on hW).tar (hc.keep (Keeps.of_below hW)) (HA.out.on hW).live (HA.out.on hW).live hf);have HTB:=hid (λW(hW:Below w.heap.size w W)=>(HA.out.on hW).tab);subst hv hvl hvd hvr;have HERR:=hid (show(CF id).2≠0->(valueP t l r base id day).2=0∨(CF id).2=(valueP t l r base id day).2 from by rw[hCF];exact controlP_err)
 have HOKC:=hid (show(CF id).2=0->∃p,prodOf l id=some p∧(valueP t l r base id day).2=0∧(CF id).1.neg =false∧((cmpR (CF id).1 (valueP t l r base id day).1).2=0->(cmpR (CF id).1 (valueP t l r base id day).1).1≤0)∧(classT t p.cas).2=0∧
   (ctlLine t p.cas=true->(CF id).1=(valueP t l r base id day).1)∧(ctlLine t p.cas=false->(sumG CF p.parts rt0).2=true->(CF id).1=(sumG CF p.parts rt0).1) from by
  subst hCF;intro h;obtain⟨p,hp,hc⟩:=control_ok h
  exact⟨p,hp,hc.val,hc.neg,cmp_neg hc.low hc.lowV hc.le,hc.cls,hc.all,hc.sum⟩)
 have HCNT:=hid (show(CF id).2=0->∀k(hk:k<l.length),∀c∈l[k].parts,-10000≤c.cnt∧c.cnt≤10000 from by subst hCF;exact λh k hk=>ctl_count h hk);have HRES:=hid (show ∀c,ResOk (CF c) from by rw[hCF];exact λc=>control_res t l r base c day);have HVR:=hid (value_res t l r base id day);clear hCF;have HFD:=hid (found_is l id);have HC0:=hid (λW hW hf=>HCT.out id W hW hf);have HCR:=hid (HRES.out id);generalize CF id=C at*;generalize valueP t l r base id day=V at*;generalize findP l id=I at*;obtain⟨dl,hdl⟩:∃dl,dl=t.dom.length:=⟨_,rfl⟩;obtain⟨nl,hnl⟩:∃nl,nl=t.lines.length:=⟨_,rfl⟩;obtain⟨rl,hrl⟩:∃rl,rl=r.length:=⟨_,rfl⟩;obtain⟨ll,hll⟩:∃ll,ll=l.length:=⟨_,rfl⟩;rw[<-hdl,<-hnl,<-hrl,<-hll]at HSM HCT HVL HC0;rw[<-hdl,<-hnl]at HCL;rw[<-hll]at HFN;rw[<-hdl,<-hnl,<-hrl,<-hll];have HLL:=hid hll;have HNL:=hid hnl;clear HA hdl hnl hrl hll;have h0:=ValF.new w #[.slice A3 dl cap3,.slice A2 nl cap2] (.slice A ll cap) (.slice A4 rl cap4) base day;go_enter Tryz.func7,Tryz.ntmps7
 go_upto_region 1 with fail
 generalize (((((w.alloc (.cells #[.slice A3 dl cap3,.slice A2 nl cap2] 27)).alloc (.cells #[.slice A ll cap] 28)).alloc (.cells #[.slice A4 rl cap4] 29)).alloc (.cells #[.string base] 9)).alloc (.cells #[.int .i64 day] 3))=w0 at*;have H0:=hid h0;clear h0;go_wp2_with fail
 refine(head28_any w0 (HTB.out _ H0.out.be)).mono ?_;rintro e w1 ⟨rfl,hb⟩;have H1:=hid (H0.out.below hb);clear hb H0;have t0:=H1.out.t.at0;have t1:=H1.out.t.at1;have tl:=H1.out.t.lt;have l0:=H1.out.l.at0;have l1:=H1.out.l.lt;have r0:=H1.out.r.at0;have r1:=H1.out.r.lt;have b0:=H1.out.b.at0;have b1:=H1.out.b.lt;have d0:=H1.out.d.at0;have d1:=H1.out.d.lt;go_wp2_with fail
 refine(HSM.out w1 H1.out.be).mono ?_;rintro e w2 ⟨sb,rfl,hb,hf⟩;have H2:=hid (H1.out.below hb);have HF:=hid hf;clear hb H1 hf t0 t1 tl l0 l1 r0 r1 b0 b1 d0 d1 HSM;cases sb
 ·go_wp2_with fail
  go_ret;exact⟨rfl,H2.out.be⟩
 ·have hfine:t.fine:=HF.out (by first|exact rfl|trivial);replace HCT:=hid (λc W hW=>HCT.out c W hW hfine);replace HC0:=hid (λW hW=>HC0.out W hW hfine);replace HVL:=hid (λW hW=>HVL.out W hW hfine);replace HCL:=hid (λcas vc hc W hW=>HCL.out cas vc hc W hW hfine);clear HF hfine;have t0:=H2.out.t.at0;have t1:=H2.out.t.at1;have tl:=H2.out.t.lt;have l0:=H2.out.l.at0;have l1:=H2.out.l.lt;have r0:=H2.out.r.at0;have r1:=H2.out.r.lt;have b0:=H2.out.b.at0;have b1:=H2.out.b.lt;have d0:=H2.out.d.at0;have d1:=H2.out.d.lt;go_wp2_with fail
  refine(HC0.out w2 H2.out.be).mono ?_;obtain⟨ca,cb,cc,hC⟩:=rtE_tri C;rw[hC];rintro e w3 ⟨rfl,hb⟩;have HCE:=hid hC;have hb':=hb.alloc hb.size (.cells #[.bool ca,.string cb,.string cc] 37);have H3:=hid (And.intro (H2.out.below hb') (Blk.new w3 37 #[.bool ca,.string cb,.string cc]));clear hb hb' H2 t0 t1 tl l0 l1 r0 r1 b0 b1 d0 d1 HC0 hC;go_upto_region 5 with fail
  generalize w3.alloc (.cells #[.bool ca,.string cb,.string cc] 37)=w4 at*;generalize w3.heap.size=xc at*;have t0:=H3.out.1.t.at0;have t1:=H3.out.1.t.at1;have tl:=H3.out.1.t.lt;have l0:=H3.out.1.l.at0;have l1:=H3.out.1.l.lt;have r0:=H3.out.1.r.at0;have r1:=H3.out.1.r.lt;have b0:=H3.out.1.b.at0;have b1:=H3.out.1.b.lt;have d0:=H3.out.1.d.at0;have d1:=H3.out.1.d.lt;go_wp2_with fail
  refine(HVL.out w4 H3.out.1.be).mono ?_;obtain⟨va,vb,vc,hV⟩:=rtE_tri V;rw[hV];rintro e w5 ⟨rfl,hb⟩;have HVE:=hid hV;have hb':=hb.alloc hb.size (.cells #[.bool va,.string vb,.string vc] 37);have H4:=hid (And.intro (H3.out.1.below hb') (And.intro (H3.out.2.below hb' H3.out.2.lt) (Blk.new w5 37 #[.bool va,.string vb,.string vc])));clear hb hb' H3 t0 t1 tl l0 l1 r0 r1 b0 b1 d0 d1 HVL hV;go_upto_region 6 with fail
  generalize w5.alloc (.cells #[.bool va,.string vb,.string vc] 37)=w6 at*;generalize w5.heap.size=xv at*;obtain⟨Cr,Ce⟩:=C;obtain⟨Vr,Ve⟩:=V;dsimp only at*;by_cases hce:Ce=0
  ·subst hce;obtain⟨p,hp,hv0,hneg,hcmp,hcls,hall,hsum⟩:=HOKC.out (by first|exact rfl|trivial);subst hv0;have hcv:rtV Cr= .agg #[.bool ca,.string cb,.string cc]:=HCE.out;have hvv:rtV Vr= .agg #[.bool va,.string vb,.string vc]:=HVE.out;have hca:ca=false:=neg_of hcv hneg;subst hca;have hcr:RtOk Cr:=HCR.out rfl;have hvr:RtOk Vr:=HVR.out rfl;have HCN:=hid (HCNT.out (by first|exact rfl|trivial));clear HCNT HOKC HERR HCR HVR HCE HVE hneg;rcases HFD.out with⟨k,hk,hI,hp2⟩|⟨hI,hni⟩
   ·subst hI;(obtain rfl:p=l[k]:=by rw[hp]at hp2;injection hp2);(have hkl:k<ll:=by rw[HLL.out];exact hk);(have hj1:((k:Nat):Int)<(ll:Int):=by omega);(have hj0:(0:Int)≤((k:Nat):Int):=by omega);have HCN1:=hid (HCN.out k hk);obtain⟨pb,poff,CA,ccap,PA,pcap,rfl,hints,hcomp,hfit,hcells⟩:=HPA.out k hk;have HCM:=hid hcomp;have HCELL:=hid hcells;have HCL1:=hid (HCL.out _ _ hints);have HALL:=hid hall;have HSUM:=hid hsum;have HCMP:=hid hcmp;obtain⟨hc1,hc2⟩:=classT_ok hcls;rw[hc1,hcls]at HCL1;obtain⟨tb,toff,rfl,hctl⟩:=HLA.out _ hc2;have HCTL:=hid hctl;have hct:=ctl_line hc2;rw[<-hct]at HCTL;(have hln:lineOf t l[k].cas <nl:=by rw[HNL.out];exact hc2);clear hints hcomp hfit hcells HCN HPA HCL hp hp2 hkl hall hsum hcmp hc1 hcls HLA hctl hct hc2 HFD HLL HNL;generalize lineOf t l[k].cas =L at*;generalize ctlLine t l[k].cas =ctl at*;generalize l[k]=p at*;clear hk;obtain⟨pid,pcas,pcur,pun,pparts⟩:=p;dsimp only at*;(have hn1:((L:Nat):Int)<(nl:Int):=by omega);(have hn0:(0:Int)≤((L:Nat):Int):=by omega);have HCV:=hid hcv;have HVV:=hid hvv;have HOK:=hid (And.intro hcr hvr);clear hcv hvv hcr hvr hln;have HCMPW:=hid (λX(hX:Below w.heap.size w X)=>rcompare_any Cr Vr HOK.out.1 HOK.out.2 X (HTB.out X hX));rw[HCV.out,HVV.out]at HCMPW;generalize cmpR Cr Vr=K at*;obtain⟨k1o,k1e⟩:=K;dsimp only at*;have l0:=H4.out.1.l.at0;have l1:=H4.out.1.l.lt;(go_wp2_with fail);refine(HFN.out w6 H4.out.1.be).mono ?_;rintro e w7 ⟨rfl,hw⟩;subst hw;clear HFN l0 l1;have x0:=H4.out.2.1.at0;have x1:=H4.out.2.1.at1;have x2:=H4.out.2.1.at2;have xl:=H4.out.2.1.lt;have y0:=H4.out.2.2.at0;have y1:=H4.out.2.2.at1;have y2:=H4.out.2.2.at2;have yl:=H4.out.2.2.lt;(go_wp2_with fail);refine(HCMPW.out w6 H4.out.1.be).mono ?_;rintro e w7 ⟨rfl,hb⟩;have H5:=hid (And.intro (H4.out.1.below hb) (And.intro (H4.out.2.1.below hb H4.out.2.1.lt) (H4.out.2.2.below hb H4.out.2.2.lt)));clear hb H4 x0 x1 x2 xl y0 y1 y2 yl HCMPW;go_upto_region 12 with fail
    have HC:=hid (λ(W:World)(hW:Below w7.heap.size w7 W)=>(show W.cell? ⟨w.heap.size,0,none⟩=some (.slice A3 dl cap3)∧W.cell? ⟨w.heap.size,1,none⟩=some (.slice (some ⟨tb,toff,none⟩) nl cap2)∧W.cell? ⟨w.heap.size+1,0,none⟩=some (.slice (some ⟨pb,poff,none⟩) ll cap)∧
      W.cell? ⟨pb,poff+k*5,none⟩=some (.string pid)∧W.cell? ⟨pb,poff+k*5+1,none⟩=some (.slice CA pcas.length ccap)∧W.cell? ⟨pb,poff+k*5+2,none⟩=some (.string pcur)∧W.cell? ⟨pb,poff+k*5+3,none⟩=some (.int .i64 pun)∧W.cell? ⟨pb,poff+k*5+4,none⟩=some (.slice PA pparts.length pcap) from by
     have h1:=H5.out.1.below hW
     exact⟨h1.t.at0,h1.t.at1,h1.l.at0,HCELL.out W h1.be⟩))
    refine wp_region_S 10 (λW=>Below w7.heap.size w7 W) (by kernel_rfl) ?_;have hB0:Below w7.heap.size w7 w7.drew:=(Below.refl _ _).drew;have hS:(λW=>Below w7.heap.size w7 W) w7.drew:=hB0;generalize w7.drew=x0 at*
    (refine tkS 0 ?_ hS ?_ ?_;rotate_left;intro w hkw;obtain⟨t0,t1,l0,p0,p1,p2,p3,p4⟩:=HC.out _ hkw;clear hkw;go_simp;(try with_reducible rfl);simp only[nr])
    (refine tkS 1 ?_ hS ?_ ?_;rotate_left;intro w hkw;obtain⟨t0,t1,l0,p0,p1,p2,p3,p4⟩:=HC.out _ hkw;clear hkw;go_simp;(try with_reducible rfl);simp only[nr])
    (refine tkZ 2 ?_ hS ?_ ?_;rotate_left;intro w;go_simp;(try with_reducible rfl);simp only[nr])
    (refine tkZ 3 ?_ hS ?_ ?_;rotate_left;intro w;go_simp;(try with_reducible rfl);simp only[nr])
    (refine tkZ 4 ?_ hS ?_ ?_;rotate_left;intro w;go_simp;(try with_reducible rfl);simp only[nr])
    (refine tkS 5 ?_ hS ?_ ?_;rotate_left;intro w hkw;obtain⟨t0,t1,l0,p0,p1,p2,p3,p4⟩:=HC.out _ hkw;clear hkw;go_simp;(try with_reducible rfl);simp only[nr])
    clear hS;refine wS1 6 (λK hK=> ?_);(go_wp2_with fail);refine(HCL1.out _ (HBEL_trans H5.out.1.be hB0)).mono ?_;rintro e x1 ⟨rfl,hb⟩;have hB1:Below w7.heap.size w7 x1:=hB0.trans (hb.mono hB0.size);refine hK _ _ (Or.inr hB1) ?_;clear hK K hb hB0
    (try simp only[nr])
    have hS:(λW=>Below w7.heap.size w7 W) x1:=hB1
    (refine tkZ 7 ?_ hS ?_ ?_;rotate_left;intro w;go_simp;(try with_reducible rfl);simp only[nr])
    (refine tkZ 8 ?_ hS ?_ ?_;rotate_left;intro w;go_simp;(try with_reducible rfl);simp only[nr])
    (refine tkZ 9 ?_ hS ?_ ?_;rotate_left;intro w;go_simp;(try with_reducible rfl);simp only[nr])
    clear hS;refine wS1 10 (λK hK=> ?_);(go_wp2_with fail);refine hK _ _ (Or.inl rfl) ?_;clear hK K
    (try simp only[nr])
    refine wS1 11 (λK hK=> ?_);(go_wp2_with fail);refine hK _ _ (Or.inl rfl) ?_;clear hK K
    (try simp only[nr])
    refine wSd ?_ _;have H6:=hid (And.intro (H5.out.1.below hB1) (And.intro (H5.out.2.1.below hB1 H5.out.2.1.lt) (H5.out.2.2.below hB1 H5.out.2.2.lt)));clear hB1 H5 HC HCL1;(rename World=>w8);have hcc:=HCTL.out w8 H6.out.1.be;have htl:=H6.out.1.t.at1;have htlt:=H6.out.1.t.lt;have x0:=H6.out.2.1.at0;have x1:=H6.out.2.1.at1;have x2:=H6.out.2.1.at2;have xl:=H6.out.2.1.lt
    have hg:(k1e=0∧¬0<k1o)∨¬k1e=0:=by
     by_cases h:k1e=0
     ·exact Or.inl ⟨h,by have:=HCMP.out h;omega⟩
     ·exact Or.inr h
    clear HCMP;(have hq1:¬nl≤L:=by omega);(have hq2:¬((L:Nat):Int)<0:=by omega);rcases hg with⟨rfl,hg1⟩|hg1
    ·(go_upto_region 15 with fail);cases ctl
     ·have HSUM1:=hid (HSUM.out (by first|exact rfl|trivial));clear HSUM HALL HVV;(go_upto_region 17 with fail);clear hcc htl htlt hq1 hq2 x0 x1 x2 xl;obtain⟨za,zb,zc,hz⟩:=rt_tri (ofR 0 1)
      have HSC:=hid (λX(hX:Below w8.heap.size w8 X)=>sum28_any 32 #[.pointer (some ⟨w.heap.size,0,none⟩),.pointer (some ⟨w.heap.size+1,0,none⟩),.pointer (some ⟨w.heap.size+1+1,0,none⟩),.pointer (some ⟨w.heap.size+1+1+1,0,none⟩),.pointer (some ⟨w.heap.size+1+1+1+1,0,none⟩)] Tryz.egcontrolC Z pid pcur CA pcas.length ccap pun PA pcap pparts rt0 CF X rt0_ok (HCM.out.keep (Keeps.of_below (HBEL_trans H6.out.1.be hX)))
       (λb hb=>Nat.lt_of_lt_of_le (HZ.out b hb) (HBEL_trans H6.out.1.be hX).size) HCN1.out (λc _=>HRES.out c.prod) (HTB.out X (HBEL_trans H6.out.1.be hX)) (λW hW c _=>controlC_any (some ⟨pb,poff,none⟩) (some ⟨tb,toff,none⟩) A3 A4 ll cap nl cap2 dl cap3 rl cap4 base day CF w W (H6.out.1.below (HBEL_trans hX hW)) c.prod (λY hY=>HCT.out c.prod Y hY)))
      rw[<-zero_rt0,hz,zero_rt0]at HSC;have HZE:=hid hz;clear hz HCT HCM HCN1 HRES;generalize sumG CF pparts rt0=S at*;go_cut[23,24] from 128 to 137 (λvp ve wx=>∃bx sa sb sc,vp= .pointer (some ⟨bx,0,none⟩)∧ve= .bool S.2∧Blk wx bx 37 #[.bool sa,.string sb,.string sc]∧w8.heap.size≤bx∧(S.2=true-> .agg #[.bool sa,.string sb,.string sc]=rtV S.1)∧Below w8.heap.size w8 wx)
      case first=>
       have HC:=hid (λ(W:World)(hW:Below w8.heap.size w8 W)=>(show W.cell? ⟨w.heap.size,0,none⟩=some (.slice A3 dl cap3)∧W.cell? ⟨w.heap.size,1,none⟩=some (.slice (some ⟨tb,toff,none⟩) nl cap2)∧W.cell? ⟨w.heap.size+1,0,none⟩=some (.slice (some ⟨pb,poff,none⟩) ll cap)∧
         W.cell? ⟨pb,poff+k*5,none⟩=some (.string pid)∧W.cell? ⟨pb,poff+k*5+1,none⟩=some (.slice CA pcas.length ccap)∧W.cell? ⟨pb,poff+k*5+2,none⟩=some (.string pcur)∧W.cell? ⟨pb,poff+k*5+3,none⟩=some (.int .i64 pun)∧W.cell? ⟨pb,poff+k*5+4,none⟩=some (.slice PA pparts.length pcap) from by
        have h1:=H6.out.1.below hW
        exact⟨h1.t.at0,h1.t.at1,h1.l.at0,HCELL.out W h1.be⟩))
       refine wp_region_S 11 (λW=>Below w8.heap.size w8 W) (by kernel_rfl) ?_;have hB0:Below w8.heap.size w8 w8.drew:=(Below.refl _ _).drew;have hS:(λW=>Below w8.heap.size w8 W) w8.drew:=hB0;generalize w8.drew=x0 at*
       (refine tkS 1 ?_ hS ?_ ?_;rotate_left;intro w hkw;obtain⟨t0,t1,l0,p0,p1,p2,p3,p4⟩:=HC.out _ hkw;clear hkw;go_simp;(try with_reducible rfl);simp only[nr])
       (refine tkZ 2 ?_ hS ?_ ?_;rotate_left;intro w;go_simp;(try with_reducible rfl);simp only[nr])
       (refine tkZ 3 ?_ hS ?_ ?_;rotate_left;intro w;go_simp;(try with_reducible rfl);simp only[nr])
       (refine tkS 4 ?_ hS ?_ ?_;rotate_left;intro w hkw;obtain⟨t0,t1,l0,p0,p1,p2,p3,p4⟩:=HC.out _ hkw;clear hkw;go_simp;(try with_reducible rfl);simp only[nr])
       (refine tkZ 5 ?_ hS ?_ ?_;rotate_left;intro w;go_simp;(try with_reducible rfl);simp only[nr])
       clear hS;refine wS2 0 10 (λK hK=> ?_) (λK hK=> ?_)
       ·(go_wp2_with fail);refine(h_num (by unfold I64;omega) HZE.out _ (HTB.out _ (HBEL_trans H6.out.1.be hB0))).mono ?_;rintro e x1 ⟨rfl,hb⟩;have hB1:Below w8.heap.size w8 x1:=hB0.trans (hb.mono hB0.size);refine hK _ _ (Or.inr hB1) ?_;clear hK K hb
        (try simp only[nr])
        refine wS2 6 10 (λK hK=> ?_) (λK hK=> ?_)
        ·(go_wp2_with fail);refine(HSC.out _ hB1).mono ?_;rintro e x2 ⟨sa,sb,sc,rfl,hsv,hb⟩;have hB2:Below w8.heap.size w8 x2:=hB1.trans (hb.mono hB1.size);have HSV:=hid hsv;clear hsv;refine hK _ _ (Or.inr hB2) ?_;clear hK K hb
         (try simp only[nr])
         have hS:(λW=>Below w8.heap.size w8 W) x2:=hB2
         (refine tkZ 7 ?_ hS ?_ ?_;rotate_left;intro w;go_simp;(try with_reducible rfl);simp only[nr])
         (refine tkZ 8 ?_ hS ?_ ?_;rotate_left;intro w;go_simp;(try with_reducible rfl);simp only[nr])
         (refine tkZ 9 ?_ hS ?_ ?_;rotate_left;intro w;go_simp;(try with_reducible rfl);simp only[nr])
         clear hS;refine wS1 10 (λK hK=> ?_);(go_wp2_with fail);refine hK _ _ (Or.inr (hB2.alloc hB2.size _)) ?_;clear hK K
         (try simp only[nr])
         have hB3:Below w8.heap.size w8 (x2.alloc (.cells #[.bool false,.string ⟨#[]⟩,.string ⟨#[]⟩] 37)):=hB2.alloc hB2.size _;have hX3:=Blk.new x2 37 #[.bool false,.string ⟨#[]⟩,.string ⟨#[]⟩];generalize x2.alloc (.cells #[.bool false,.string ⟨#[]⟩,.string ⟨#[]⟩] 37)=x3 at*;refine wS1 11 (λK hK=> ?_);have c0:=hX3.at0;have c1:=hX3.at1;have c2:=hX3.at2;have g0:=hX3.frozen 0;have g1:=hX3.frozen 1;have g2:=hX3.frozen 2;have cl:=hX3.lt;have HXX:=hid hX3;clear hX3;(go_wp2_with fail);refine hK _ _ (Or.inl rfl) ?_;clear hK K
         (try simp only[nr])
         refine wS1 12 (λK hK=> ?_);(go_wp2_with fail);refine hK _ _ (Or.inl rfl) ?_;clear hK K
         (try simp only[nr])
         refine wSd ?_ _;(go_wp2_with fail);go_meet;exact⟨x2.heap.size,sa,sb,sc,rfl,rfl,((HXX.out.set_ 0 _).set_ 1 _).set_ 2 _,hB2.size,HSV.out,((hB3.setCell hB2.size _).setCell hB2.size _).setCell hB2.size _⟩
        ·(go_wp2_with fail);refine hK _ _ (Or.inr (hB1.alloc hB1.size _)) ?_;clear hK K
         (try simp only[nr])
         have hB2:Below w8.heap.size w8 (x1.alloc (.cells #[.bool false,.string ⟨#[]⟩,.string ⟨#[]⟩] 37)):=hB1.alloc hB1.size _;have hX2:=Blk.new x1 37 #[.bool false,.string ⟨#[]⟩,.string ⟨#[]⟩];generalize x1.alloc (.cells #[.bool false,.string ⟨#[]⟩,.string ⟨#[]⟩] 37)=x2 at*;refine wS1 6 (λK hK=> ?_);(go_wp2_with fail);refine(HSC.out _ hB2).mono ?_;rintro e x3 ⟨sa,sb,sc,rfl,hsv,hb⟩;have hB3:Below w8.heap.size w8 x3:=hB2.trans (hb.mono hB2.size);have HSV:=hid hsv;clear hsv;have hX3:=hX2.below hb hX2.lt;refine hK _ _ (Or.inr hB3) ?_;clear hK K hb
         (try simp only[nr])
         have hS:(λW=>Below w8.heap.size w8 W) x3:=hB3
         (refine tkZ 7 ?_ hS ?_ ?_;rotate_left;intro w;go_simp;(try with_reducible rfl);simp only[nr])
         (refine tkZ 8 ?_ hS ?_ ?_;rotate_left;intro w;go_simp;(try with_reducible rfl);simp only[nr])
         (refine tkZ 9 ?_ hS ?_ ?_;rotate_left;intro w;go_simp;(try with_reducible rfl);simp only[nr])
         clear hS;refine wS1 11 (λK hK=> ?_);have c0:=hX3.at0;have c1:=hX3.at1;have c2:=hX3.at2;have g0:=hX3.frozen 0;have g1:=hX3.frozen 1;have g2:=hX3.frozen 2;have cl:=hX3.lt;have HXX:=hid hX3;clear hX3;(go_wp2_with fail);refine hK _ _ (Or.inl rfl) ?_;clear hK K
         (try simp only[nr])
         refine wS1 12 (λK hK=> ?_);(go_wp2_with fail);refine hK _ _ (Or.inl rfl) ?_;clear hK K
         (try simp only[nr])
         refine wSd ?_ _;(go_wp2_with fail);go_meet;exact⟨x1.heap.size,sa,sb,sc,rfl,rfl,((HXX.out.set_ 0 _).set_ 1 _).set_ 2 _,hB1.size,HSV.out,((hB3.setCell hB1.size _).setCell hB1.size _).setCell hB1.size _⟩
       ·(go_wp2_with fail);refine hK _ _ (Or.inr (hB0.alloc hB0.size _)) ?_;clear hK K
        (try simp only[nr])
        have hB1:Below w8.heap.size w8 (x0.alloc (.cells #[.bool false,.string ⟨#[]⟩,.string ⟨#[]⟩] 37)):=hB0.alloc hB0.size _;have hX1:=Blk.new x0 37 #[.bool false,.string ⟨#[]⟩,.string ⟨#[]⟩];generalize x0.alloc (.cells #[.bool false,.string ⟨#[]⟩,.string ⟨#[]⟩] 37)=x1 at*;refine wS1 0 (λK hK=> ?_);(go_wp2_with fail);refine(h_num (by unfold I64;omega) HZE.out _ (HTB.out _ (HBEL_trans H6.out.1.be hB1))).mono ?_;rintro e x2 ⟨rfl,hb⟩;have hB2:Below w8.heap.size w8 x2:=hB1.trans (hb.mono hB1.size);have hX2:=hX1.below hb hX1.lt;refine hK _ _ (Or.inr hB2) ?_;clear hK K hb
        (try simp only[nr])
        refine wS1 6 (λK hK=> ?_);(go_wp2_with fail);refine(HSC.out _ hB2).mono ?_;rintro e x3 ⟨sa,sb,sc,rfl,hsv,hb⟩;have hB3:Below w8.heap.size w8 x3:=hB2.trans (hb.mono hB2.size);have HSV:=hid hsv;clear hsv;have hX3:=hX2.below hb hX2.lt;refine hK _ _ (Or.inr hB3) ?_;clear hK K hb
        (try simp only[nr])
        have hS:(λW=>Below w8.heap.size w8 W) x3:=hB3
        (refine tkZ 7 ?_ hS ?_ ?_;rotate_left;intro w;go_simp;(try with_reducible rfl);simp only[nr])
        (refine tkZ 8 ?_ hS ?_ ?_;rotate_left;intro w;go_simp;(try with_reducible rfl);simp only[nr])
        (refine tkZ 9 ?_ hS ?_ ?_;rotate_left;intro w;go_simp;(try with_reducible rfl);simp only[nr])
        clear hS;refine wS1 11 (λK hK=> ?_);have c0:=hX3.at0;have c1:=hX3.at1;have c2:=hX3.at2;have g0:=hX3.frozen 0;have g1:=hX3.frozen 1;have g2:=hX3.frozen 2;have cl:=hX3.lt;have HXX:=hid hX3;clear hX3;(go_wp2_with fail);refine hK _ _ (Or.inl rfl) ?_;clear hK K
        (try simp only[nr])
        refine wS1 12 (λK hK=> ?_);(go_wp2_with fail);refine hK _ _ (Or.inl rfl) ?_;clear hK K
        (try simp only[nr])
        refine wSd ?_ _;(go_wp2_with fail);go_meet;exact⟨x0.heap.size,sa,sb,sc,rfl,rfl,((HXX.out.set_ 0 _).set_ 1 _).set_ 2 _,hB0.size,HSV.out,((hB3.setCell hB0.size _).setCell hB0.size _).setCell hB0.size _⟩
      case rest=>
       obtain⟨xs,sa,sb,sc,rfl,rfl,hx,hxl,hsv,hb⟩:=hcut;have H7:=hid (And.intro (H6.out.1.below hb) (And.intro (H6.out.2.1.below hb H6.out.2.1.lt) hx));have HSV:=hid hsv;clear hb hx hxl hsv H6 HSC;(rename World=>w9);obtain⟨Sr,Sb⟩:=S;dsimp only at*;cases Sb
       ·(go_wp2_with fail);go_ret;exact⟨rfl,H7.out.1.be⟩
       ·have hcs:Cr=Sr:=HSUM1.out (by first|exact rfl|trivial);subst hcs;have hs:=HSV.out (by first|exact rfl|trivial);have HXS:=hid hs;clear hs HSV HSUM1;have x0:=H7.out.2.1.at0;have x1:=H7.out.2.1.at1;have x2:=H7.out.2.1.at2;have xl:=H7.out.2.1.lt;have y0:=H7.out.2.2.at0;have y1:=H7.out.2.2.at1;have y2:=H7.out.2.2.at2;have yl:=H7.out.2.2.lt;go_wp2_with(refine wpList_eqRw (by kernel_rfl) _ _ rfl Cr Cr HCV.out.symm HXS.out ?_;rw[decide_eq_true rfl]);go_ret;exact⟨rfl,H7.out.1.be⟩
     ·have hcve:Cr=Vr:=HALL.out (by first|exact rfl|trivial);subst hcve;have y0:=H6.out.2.2.at0;have y1:=H6.out.2.2.at1;have y2:=H6.out.2.2.at2;have yl:=H6.out.2.2.lt;go_wp2_with(refine wpList_eqRw (by kernel_rfl) _ _ rfl Cr Cr HCV.out.symm HVV.out.symm ?_;rw[decide_eq_true rfl]);go_ret;exact⟨rfl,H6.out.1.be⟩
    ·(have hg2:(k1e==0)=false:=by simpa using hg1);(go_upto_region 15 with fail);cases ctl
     ·have HSUM1:=hid (HSUM.out (by first|exact rfl|trivial));clear HSUM HALL HVV;(go_upto_region 17 with fail);clear hcc htl htlt hq1 hq2 x0 x1 x2 xl;obtain⟨za,zb,zc,hz⟩:=rt_tri (ofR 0 1)
      have HSC:=hid (λX(hX:Below w8.heap.size w8 X)=>sum28_any 32 #[.pointer (some ⟨w.heap.size,0,none⟩),.pointer (some ⟨w.heap.size+1,0,none⟩),.pointer (some ⟨w.heap.size+1+1,0,none⟩),.pointer (some ⟨w.heap.size+1+1+1,0,none⟩),.pointer (some ⟨w.heap.size+1+1+1+1,0,none⟩)] Tryz.egcontrolC Z pid pcur CA pcas.length ccap pun PA pcap pparts rt0 CF X rt0_ok (HCM.out.keep (Keeps.of_below (HBEL_trans H6.out.1.be hX)))
       (λb hb=>Nat.lt_of_lt_of_le (HZ.out b hb) (HBEL_trans H6.out.1.be hX).size) HCN1.out (λc _=>HRES.out c.prod) (HTB.out X (HBEL_trans H6.out.1.be hX)) (λW hW c _=>controlC_any (some ⟨pb,poff,none⟩) (some ⟨tb,toff,none⟩) A3 A4 ll cap nl cap2 dl cap3 rl cap4 base day CF w W (H6.out.1.below (HBEL_trans hX hW)) c.prod (λY hY=>HCT.out c.prod Y hY)))
      rw[<-zero_rt0,hz,zero_rt0]at HSC;have HZE:=hid hz;clear hz HCT HCM HCN1 HRES;generalize sumG CF pparts rt0=S at*;go_cut[23,24] from 128 to 137 (λvp ve wx=>∃bx sa sb sc,vp= .pointer (some ⟨bx,0,none⟩)∧ve= .bool S.2∧Blk wx bx 37 #[.bool sa,.string sb,.string sc]∧w8.heap.size≤bx∧(S.2=true-> .agg #[.bool sa,.string sb,.string sc]=rtV S.1)∧Below w8.heap.size w8 wx)
      case first=>
       have HC:=hid (λ(W:World)(hW:Below w8.heap.size w8 W)=>(show W.cell? ⟨w.heap.size,0,none⟩=some (.slice A3 dl cap3)∧W.cell? ⟨w.heap.size,1,none⟩=some (.slice (some ⟨tb,toff,none⟩) nl cap2)∧W.cell? ⟨w.heap.size+1,0,none⟩=some (.slice (some ⟨pb,poff,none⟩) ll cap)∧
         W.cell? ⟨pb,poff+k*5,none⟩=some (.string pid)∧W.cell? ⟨pb,poff+k*5+1,none⟩=some (.slice CA pcas.length ccap)∧W.cell? ⟨pb,poff+k*5+2,none⟩=some (.string pcur)∧W.cell? ⟨pb,poff+k*5+3,none⟩=some (.int .i64 pun)∧W.cell? ⟨pb,poff+k*5+4,none⟩=some (.slice PA pparts.length pcap) from by
        have h1:=H6.out.1.below hW
        exact⟨h1.t.at0,h1.t.at1,h1.l.at0,HCELL.out W h1.be⟩))
       refine wp_region_S 11 (λW=>Below w8.heap.size w8 W) (by kernel_rfl) ?_;have hB0:Below w8.heap.size w8 w8.drew:=(Below.refl _ _).drew;have hS:(λW=>Below w8.heap.size w8 W) w8.drew:=hB0;generalize w8.drew=x0 at*
       (refine tkS 1 ?_ hS ?_ ?_;rotate_left;intro w hkw;obtain⟨t0,t1,l0,p0,p1,p2,p3,p4⟩:=HC.out _ hkw;clear hkw;go_simp;(try with_reducible rfl);simp only[nr])
       (refine tkZ 2 ?_ hS ?_ ?_;rotate_left;intro w;go_simp;(try with_reducible rfl);simp only[nr])
       (refine tkZ 3 ?_ hS ?_ ?_;rotate_left;intro w;go_simp;(try with_reducible rfl);simp only[nr])
       (refine tkS 4 ?_ hS ?_ ?_;rotate_left;intro w hkw;obtain⟨t0,t1,l0,p0,p1,p2,p3,p4⟩:=HC.out _ hkw;clear hkw;go_simp;(try with_reducible rfl);simp only[nr])
       (refine tkZ 5 ?_ hS ?_ ?_;rotate_left;intro w;go_simp;(try with_reducible rfl);simp only[nr])
       clear hS;refine wS2 0 10 (λK hK=> ?_) (λK hK=> ?_)
       ·(go_wp2_with fail);refine(h_num (by unfold I64;omega) HZE.out _ (HTB.out _ (HBEL_trans H6.out.1.be hB0))).mono ?_;rintro e x1 ⟨rfl,hb⟩;have hB1:Below w8.heap.size w8 x1:=hB0.trans (hb.mono hB0.size);refine hK _ _ (Or.inr hB1) ?_;clear hK K hb
        (try simp only[nr])
        refine wS2 6 10 (λK hK=> ?_) (λK hK=> ?_)
        ·(go_wp2_with fail);refine(HSC.out _ hB1).mono ?_;rintro e x2 ⟨sa,sb,sc,rfl,hsv,hb⟩;have hB2:Below w8.heap.size w8 x2:=hB1.trans (hb.mono hB1.size);have HSV:=hid hsv;clear hsv;refine hK _ _ (Or.inr hB2) ?_;clear hK K hb
         (try simp only[nr])
         have hS:(λW=>Below w8.heap.size w8 W) x2:=hB2
         (refine tkZ 7 ?_ hS ?_ ?_;rotate_left;intro w;go_simp;(try with_reducible rfl);simp only[nr])
         (refine tkZ 8 ?_ hS ?_ ?_;rotate_left;intro w;go_simp;(try with_reducible rfl);simp only[nr])
         (refine tkZ 9 ?_ hS ?_ ?_;rotate_left;intro w;go_simp;(try with_reducible rfl);simp only[nr])
         clear hS;refine wS1 10 (λK hK=> ?_);(go_wp2_with fail);refine hK _ _ (Or.inr (hB2.alloc hB2.size _)) ?_;clear hK K
         (try simp only[nr])
         have hB3:Below w8.heap.size w8 (x2.alloc (.cells #[.bool false,.string ⟨#[]⟩,.string ⟨#[]⟩] 37)):=hB2.alloc hB2.size _;have hX3:=Blk.new x2 37 #[.bool false,.string ⟨#[]⟩,.string ⟨#[]⟩];generalize x2.alloc (.cells #[.bool false,.string ⟨#[]⟩,.string ⟨#[]⟩] 37)=x3 at*;refine wS1 11 (λK hK=> ?_);have c0:=hX3.at0;have c1:=hX3.at1;have c2:=hX3.at2;have g0:=hX3.frozen 0;have g1:=hX3.frozen 1;have g2:=hX3.frozen 2;have cl:=hX3.lt;have HXX:=hid hX3;clear hX3;(go_wp2_with fail);refine hK _ _ (Or.inl rfl) ?_;clear hK K
         (try simp only[nr])
         refine wS1 12 (λK hK=> ?_);(go_wp2_with fail);refine hK _ _ (Or.inl rfl) ?_;clear hK K
         (try simp only[nr])
         refine wSd ?_ _;(go_wp2_with fail);go_meet;exact⟨x2.heap.size,sa,sb,sc,rfl,rfl,((HXX.out.set_ 0 _).set_ 1 _).set_ 2 _,hB2.size,HSV.out,((hB3.setCell hB2.size _).setCell hB2.size _).setCell hB2.size _⟩
        ·(go_wp2_with fail);refine hK _ _ (Or.inr (hB1.alloc hB1.size _)) ?_;clear hK K
         (try simp only[nr])
         have hB2:Below w8.heap.size w8 (x1.alloc (.cells #[.bool false,.string ⟨#[]⟩,.string ⟨#[]⟩] 37)):=hB1.alloc hB1.size _;have hX2:=Blk.new x1 37 #[.bool false,.string ⟨#[]⟩,.string ⟨#[]⟩];generalize x1.alloc (.cells #[.bool false,.string ⟨#[]⟩,.string ⟨#[]⟩] 37)=x2 at*;refine wS1 6 (λK hK=> ?_);(go_wp2_with fail);refine(HSC.out _ hB2).mono ?_;rintro e x3 ⟨sa,sb,sc,rfl,hsv,hb⟩;have hB3:Below w8.heap.size w8 x3:=hB2.trans (hb.mono hB2.size);have HSV:=hid hsv;clear hsv;have hX3:=hX2.below hb hX2.lt;refine hK _ _ (Or.inr hB3) ?_;clear hK K hb
         (try simp only[nr])
         have hS:(λW=>Below w8.heap.size w8 W) x3:=hB3
         (refine tkZ 7 ?_ hS ?_ ?_;rotate_left;intro w;go_simp;(try with_reducible rfl);simp only[nr])
         (refine tkZ 8 ?_ hS ?_ ?_;rotate_left;intro w;go_simp;(try with_reducible rfl);simp only[nr])
         (refine tkZ 9 ?_ hS ?_ ?_;rotate_left;intro w;go_simp;(try with_reducible rfl);simp only[nr])
         clear hS;refine wS1 11 (λK hK=> ?_);have c0:=hX3.at0;have c1:=hX3.at1;have c2:=hX3.at2;have g0:=hX3.frozen 0;have g1:=hX3.frozen 1;have g2:=hX3.frozen 2;have cl:=hX3.lt;have HXX:=hid hX3;clear hX3;(go_wp2_with fail);refine hK _ _ (Or.inl rfl) ?_;clear hK K
         (try simp only[nr])
         refine wS1 12 (λK hK=> ?_);(go_wp2_with fail);refine hK _ _ (Or.inl rfl) ?_;clear hK K
         (try simp only[nr])
         refine wSd ?_ _;(go_wp2_with fail);go_meet;exact⟨x1.heap.size,sa,sb,sc,rfl,rfl,((HXX.out.set_ 0 _).set_ 1 _).set_ 2 _,hB1.size,HSV.out,((hB3.setCell hB1.size _).setCell hB1.size _).setCell hB1.size _⟩
       ·(go_wp2_with fail);refine hK _ _ (Or.inr (hB0.alloc hB0.size _)) ?_;clear hK K
        (try simp only[nr])
        have hB1:Below w8.heap.size w8 (x0.alloc (.cells #[.bool false,.string ⟨#[]⟩,.string ⟨#[]⟩] 37)):=hB0.alloc hB0.size _;have hX1:=Blk.new x0 37 #[.bool false,.string ⟨#[]⟩,.string ⟨#[]⟩];generalize x0.alloc (.cells #[.bool false,.string ⟨#[]⟩,.string ⟨#[]⟩] 37)=x1 at*;refine wS1 0 (λK hK=> ?_);(go_wp2_with fail);refine(h_num (by unfold I64;omega) HZE.out _ (HTB.out _ (HBEL_trans H6.out.1.be hB1))).mono ?_;rintro e x2 ⟨rfl,hb⟩;have hB2:Below w8.heap.size w8 x2:=hB1.trans (hb.mono hB1.size);have hX2:=hX1.below hb hX1.lt;refine hK _ _ (Or.inr hB2) ?_;clear hK K hb
        (try simp only[nr])
        refine wS1 6 (λK hK=> ?_);(go_wp2_with fail);refine(HSC.out _ hB2).mono ?_;rintro e x3 ⟨sa,sb,sc,rfl,hsv,hb⟩;have hB3:Below w8.heap.size w8 x3:=hB2.trans (hb.mono hB2.size);have HSV:=hid hsv;clear hsv;have hX3:=hX2.below hb hX2.lt;refine hK _ _ (Or.inr hB3) ?_;clear hK K hb
        (try simp only[nr])
        have hS:(λW=>Below w8.heap.size w8 W) x3:=hB3
        (refine tkZ 7 ?_ hS ?_ ?_;rotate_left;intro w;go_simp;(try with_reducible rfl);simp only[nr])
        (refine tkZ 8 ?_ hS ?_ ?_;rotate_left;intro w;go_simp;(try with_reducible rfl);simp only[nr])
        (refine tkZ 9 ?_ hS ?_ ?_;rotate_left;intro w;go_simp;(try with_reducible rfl);simp only[nr])
        clear hS;refine wS1 11 (λK hK=> ?_);have c0:=hX3.at0;have c1:=hX3.at1;have c2:=hX3.at2;have g0:=hX3.frozen 0;have g1:=hX3.frozen 1;have g2:=hX3.frozen 2;have cl:=hX3.lt;have HXX:=hid hX3;clear hX3;(go_wp2_with fail);refine hK _ _ (Or.inl rfl) ?_;clear hK K
        (try simp only[nr])
        refine wS1 12 (λK hK=> ?_);(go_wp2_with fail);refine hK _ _ (Or.inl rfl) ?_;clear hK K
        (try simp only[nr])
        refine wSd ?_ _;(go_wp2_with fail);go_meet;exact⟨x0.heap.size,sa,sb,sc,rfl,rfl,((HXX.out.set_ 0 _).set_ 1 _).set_ 2 _,hB0.size,HSV.out,((hB3.setCell hB0.size _).setCell hB0.size _).setCell hB0.size _⟩
      case rest=>
       obtain⟨xs,sa,sb,sc,rfl,rfl,hx,hxl,hsv,hb⟩:=hcut;have H7:=hid (And.intro (H6.out.1.below hb) (And.intro (H6.out.2.1.below hb H6.out.2.1.lt) hx));have HSV:=hid hsv;clear hb hx hxl hsv H6 HSC;(rename World=>w9);obtain⟨Sr,Sb⟩:=S;dsimp only at*;cases Sb
       ·(go_wp2_with fail);go_ret;exact⟨rfl,H7.out.1.be⟩
       ·have hcs:Cr=Sr:=HSUM1.out (by first|exact rfl|trivial);subst hcs;have hs:=HSV.out (by first|exact rfl|trivial);have HXS:=hid hs;clear hs HSV HSUM1;have x0:=H7.out.2.1.at0;have x1:=H7.out.2.1.at1;have x2:=H7.out.2.1.at2;have xl:=H7.out.2.1.lt;have y0:=H7.out.2.2.at0;have y1:=H7.out.2.2.at1;have y2:=H7.out.2.2.at2;have yl:=H7.out.2.2.lt;go_wp2_with(refine wpList_eqRw (by kernel_rfl) _ _ rfl Cr Cr HCV.out.symm HXS.out ?_;rw[decide_eq_true rfl]);go_ret;exact⟨rfl,H7.out.1.be⟩
     ·have hcve:Cr=Vr:=HALL.out (by first|exact rfl|trivial);subst hcve;have y0:=H6.out.2.2.at0;have y1:=H6.out.2.2.at1;have y2:=H6.out.2.2.at2;have yl:=H6.out.2.2.lt;go_wp2_with(refine wpList_eqRw (by kernel_rfl) _ _ rfl Cr Cr HCV.out.symm HVV.out.symm ?_;rw[decide_eq_true rfl]);go_ret;exact⟨rfl,H6.out.1.be⟩
   ·exact absurd hni (by
     obtain⟨q1,q2⟩:=prodOf_some hp;rw[<-q2]
     exact λh=>h (List.mem_map_of_mem q1))
  ·(have hce':(Ce==0)=false:=by simpa using hce);rcases HERR.out hce with hv0|hv0
   ·subst hv0;(go_wp2_with fail);go_ret;exact⟨rfl,H4.out.1.be⟩
   ·replace hv0:Ce=Ve:=hv0;subst hv0;(go_wp2_with fail);go_ret;exact⟨rfl,H4.out.1.be⟩
end
section
open Go.ChangeShapes Go.WideShapes Go.ChangeAt
theorem partscontrolled_lifted(os:Os)(started:os.Started)(H:Type)(enc:TypeId × Value->H):
  ReturnsInHanded {} Tryz.checked os 7 .any (λw args=>(Rows.partsControlledSpec.pre enc Tryz.prog Tryz.f7 [] false w args∧laidMetH Tryz.prog laid7 w)∧sizedMet enc Tryz.prog Tryz.f7 (OpenSpec.ofChange Rows.partsControlledSpec) false w args)
   (Rows.partsControlledSpec.post enc Tryz.prog Tryz.f7 false true false false):=by
 refine returnsInHanded_of_change_and (C:=Tryz.checked) (X:=λw _=>laidMetH Tryz.prog laid7 w) (λ_ _ _ hh h=>h.of_heap hh) own started (by kernel_rfl) Tryz.func7
  (ChangeSpec.witness_shaped (enc:=enc) (C:=Tryz.checked) (os:=os) (X:=λw _=>laidMetH Tryz.prog laid7 w) false (World.laidAll Tryz.prog os laid7) #[.agg #[.slice none 0 0,.slice none 0 0],.slice none 0 0,.slice none 0 0,.string ByteArray.empty,.string ByteArray.empty,.int .i64 0] 8 (World.laidAll_os _ _ _) (laid_shape7 os) (by kernel_rfl) (by kernel_rfl) (by kernel_rfl) (laid_met7 os _)) ?_
 intro W base args ds gs before hval0 hW _ hsz0 hL _;have hval:∀(j:Nat) t v,Tryz.f7.params[j]? =some t->args[j]? =some v->Value.okWide Tryz.prog W .any base t v:=hval0;have hW':=hW;obtain⟨p,q,hA0,hV,rfl,-,-⟩:=hW;have hA:DataW.TrodAll enc Tryz.prog W 0 (λ_=>true) true Tryz.f7.params.toList args.toList ds p:=hA0;have hsz:(DataW.weightsEach Tryz.prog (Tryz.f7.params.toList++Rows.partsControlledSpec.plain.varTypes Tryz.prog) (ds++gs)).all (· ≤reachBytes)=true:=hsz0;clear hA0 hsz0 hval0;obtain⟨rfl,rfl⟩:=trodVars_none hV;simp only[List.append_nil]at hW';have hAA:=hA;rw[Tryz.params7]at hA hval hsz;obtain⟨v0,vs0,d0,ds0,p0,q0,hargs,rfl,rfl,h0,r0⟩:=trodAll_cons hA;obtain⟨v1,vs1,d1,ds1,p1,q1,rfl,rfl,rfl,h1,r1⟩:=trodAll_cons r0;obtain⟨v2,vs2,d2,ds2,p2,q2,rfl,rfl,rfl,h2,r2⟩:=trodAll_cons r1;obtain⟨v3,vs3,d3,ds3,p3,q3,rfl,rfl,rfl,h3,r3⟩:=trodAll_cons r2;obtain⟨v4,vs4,d4,ds4,p4,q4,rfl,rfl,rfl,h4,r4⟩:=trodAll_cons r3;obtain⟨v5,vs5,d5,ds5,p5,q5,rfl,rfl,rfl,h5,r5⟩:=trodAll_cons r4;obtain⟨rfl,rfl,rfl⟩:=trodAll_nil r5;obtain rfl:args=#[v0,v1,v2,v3,v4,v5]:=by simpa using congrArg List.toArray hargs
 obtain⟨x0,y0,t0,rfl,a0⟩:=arg_tar (hval 0 27 _ rfl rfl) h0 (rd_arg hsz (j:=0) rfl rfl);obtain⟨xs1,a1⟩:=arg_prods (hval 1 28 _ rfl rfl) h1 (rd_arg hsz (j:=1) rfl rfl);obtain⟨xs2,a2⟩:=arg_rates (hval 2 29 _ rfl rfl) h2 (rd_arg hsz (j:=2) rfl rfl);obtain⟨s3,rfl,a3⟩:=arg_str (hval 3 9 _ rfl rfl) h3 (rd_arg hsz (j:=3) rfl rfl);obtain⟨s4,rfl,a4⟩:=arg_str (hval 4 9 _ rfl rfl) h4 (rd_arg hsz (j:=4) rfl rfl);obtain⟨n5,rfl,a5⟩:=arg_int (hval 5 3 _ rfl rfl) h5 (rd_arg hsz (j:=5) rfl rfl);refine(partsControlled_any (Here W) _ _ _ _ t0 xs1 xs2 s3 s4 n5 W a0 a1 a2 (λ_ h=>h) a3 a4 a5 (tab_of_laid7 hL)).mono λe W' ⟨he,hb⟩=> ?_
 subst he;exact⟨_,rfl,law_post hW' hAA rfl rfl (by kernel_rfl) (by kernel_rfl) hb⟩
theorem partscontrolled_place:(Rows.partsControlledRow.inPlace==Tryz.prog.inPlace 7)=true:=by kernel_rfl
theorem partscontrolled_follow:(Rows.partsControlledRow.unfollowed==Tryz.prog.unfollowed 7)=true:=by kernel_rfl
theorem partscontrolled_recurs:(Rows.partsControlledRow.recurses==Tryz.prog.recurses 7)=true:=by kernel_rfl
theorem partscontrolled_named:(Rows.partsControlledRow.named==Tryz.prog.varsNamed 7)=true:=by kernel_rfl
theorem partscontrolled_facts:joinedFacts Tryz.prog 7 Tryz.f7 Rows.partsControlledSpec Rows.partsControlledRow=true:=
 joined_parts (by kernel_rfl) laidOut p_rowed (by kernel_rfl) (by kernel_rfl) rfl p_stops rfl p_knobs partscontrolled_place partscontrolled_follow partscontrolled_recurs partscontrolled_named (by kernel_rfl) (by kernel_rfl) (by kernel_rfl) (by kernel_rfl) (by kernel_rfl) rfl (by kernel_rfl) (by kernel_rfl) (by kernel_rfl)
  p_keys rfl p_heard p_enter p_lifts p_make rfl (by kernel_rfl) (by kernel_rfl) (by kernel_rfl)
theorem partscontrolled_holds:Rows.PartsControlledSaid:=
 OpenClaim.holds_of_wide 7 Tryz.f7 rfl rfl rfl rfl rfl rfl rfl ⟨rfl,rfl,rfl,rfl,rfl⟩ rfl rfl rfl rfl rfl (by kernel_rfl) Tryz.func7 partscontrolled_facts
  (of_decide_eq_true (by kernel_rfl)) (by unfold Func.isWrapper;rw[if_neg (of_decide_eq_false (by kernel_rfl))];exact⟨rfl,rfl⟩)
  (λos started H enc _=>partscontrolled_lifted os started H enc)
theorem partscontrolled_card:Rows.PartsControlledCardSaid:=
 Claim7.holds_tied_plain_at .later [] [.data,.data,.data,.data,.sentinel,.sentinel,.pinned] true (true,"6153792142eb100ff59508268ab888eb745437a65818656218587bab2593252c") true
  partscontrolled_holds (λ_ h=>by cases h) (by kernel_rfl) (λ_ h=>by cases h) partsControlled_row_tie rfl ⟨rfl,rfl⟩ (by kernel_rfl) rfl
  (λf fn hf hfn=>by
   obtain rfl:f=7:=Option.some.inj ((show Tryz.prog.funcNamed "customhouse/customhouselaw28.PartsControlled" =some 7 by kernel_rfl).symm.trans hf) |>.symm;obtain rfl:fn=Tryz.f7:=(Option.some.inj (Tryz.func7.symm.trans hfn)).symm
   exact⟨by kernel_rfl,λj t ht=>by
    rw[Tryz.params7]at ht;(have hm:t∈[27,28,29,9,9,3]:=by simpa using Array.mem_of_getElem? ht);have hall:([27,28,29,9,9,3].all λu=> !Tryz.prog.wantsStandIn u)=true:=by kernel_rfl
    exact(show Tryz.prog.wantsStandIn t=false by simpa using List.all_eq_true.1 hall t hm)⟩)
  (by kernel_rfl)
end
end Go.Proofs.YtaedcjcdpckkaaaGreatDoor
