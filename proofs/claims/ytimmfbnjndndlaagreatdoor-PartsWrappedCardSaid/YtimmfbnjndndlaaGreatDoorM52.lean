/- Texts RWT. -/
import Derived.Test.YtimmfbnjndndlaaGreatDoorM51
set_option linter.all false
namespace Go.Proofs.YtimmfbnjndndlaaGreatDoor
open Go.RowKit
set_option maxHeartbeats 16000000
set_option maxRecDepth 100000
section
open Go.Shelf
theorem partsWrapped_any(Z:Zone)(vd vl v vr:Value)(t:TarD)(l:List ProdD)(r:List RateD)(base id:ByteArray)(day:Int)(w:World)(ht:TarR Z w vd vl t)(h:Prods Z w v l)(hr:Rates Z w vr r)(hz:∀b,Z b->b<w.heap.size)
  (hbs:base.size≤140737488355328)(his:id.size≤140737488355328)(hd:I64 day)(htab:TabB w.heap.size w)(one two:Int)(h1:0≤one∧one≤65535)(h2:0≤two∧two≤65535):
  Calls Tryz.prog 3 #[.agg #[vd,vl],v,vr,.string base,.string id,.int .i64 day,.int .u16 one,.int .u16 two] w λe w'=>e= .returned (.bool true)∧Below w.heap.size w w':=by
 have HA:=hid (ArgP.mk ht h hr hz hbs his htab);obtain⟨A,cap,hv,-,hseq⟩:=h.form;obtain⟨A2,cap2,hvl,hlseq⟩:∃A2 cap2,vl= .slice A2 t.lines.length cap2∧SeqR (LineR Z w) 7 Z w t.lines A2:=by obtain⟨⟨A2,cap2,e,_,_,_,hs⟩⟩:=ht.l;exact⟨A2,cap2,e,hs⟩
 obtain⟨A3,cap3,hvd⟩:∃A3 cap3,vd= .slice A3 t.dom.length cap3:=by obtain⟨⟨A3,cap3,e,_⟩,_⟩:=ht.d;exact⟨A3,cap3,e⟩
 obtain⟨A4,cap4,hvr⟩:∃A4 cap4,vr= .slice A4 r.length cap4:=by obtain⟨⟨A4,cap4,e,_⟩,_⟩:=hr;exact⟨A4,cap4,e⟩
 have HPA:=hid (λk(hk:k<l.length)=>prod_at hseq hz hk);have HLA:=hid (λk(hk:k<t.lines.length)=>line_at' hlseq hz hk);have HZ:=hid hz;have HB12:=hid (And.intro h1 h2);clear ht h hr hz hbs his htab hd hseq hlseq h1 h2;have HSM:=hid (λW(hW:Below w.heap.size w W)=>small28_few Z vd vl v vr t l r base id W (HA.out.on hW).tar (HA.out.on hW).pr (HA.out.on hW).ra (HA.out.on hW).live (HA.out.on hW).bs (HA.out.on hW).is);have HCH:=hid (λW(hW:Below w.heap.size w W)(hf:t.fine)=>pcheck_any Z vd vl v t l W (HA.out.on hW).tar (HA.out.on hW).pr (HA.out.on hW).live hf (HA.out.on hW).tab);have HFN:=hid (λc W(hW:Below w.heap.size w W)=>find28_any Z v l c W (HA.out.on hW).pr);have HCL:=hid (λcas vc(hc:Ints Z w vc cas) W(hW:Below w.heap.size w W)(hf:t.fine)=>classify_any Z Z vd vl vc t cas W (HA.out.on hW).tar (hc.keep (Keeps.of_below hW)) (HA.out.on hW).live (HA.out.on hW).live hf);have HTB:=hid (λW(hW:Below w.heap.size w W)=>(HA.out.on hW).tab);subst hv hvl hvd hvr;obtain⟨CK,hCK⟩:∃c,c=checkP t l:=⟨_,rfl⟩;have HCKE:=hid hCK;rw[<-hCK]at HCH;obtain⟨dl,hdl⟩:∃dl,dl=t.dom.length:=⟨_,rfl⟩;obtain⟨nl,hnl⟩:∃nl,nl=t.lines.length:=⟨_,rfl⟩;obtain⟨rl,hrl⟩:∃rl,rl=r.length:=⟨_,rfl⟩;obtain⟨ll,hll⟩:∃ll,ll=l.length:=⟨_,rfl⟩;rw[<-hdl,<-hnl,<-hrl,<-hll]at HSM;rw[<-hdl,<-hnl,<-hll]at HCH;rw[<-hdl,<-hnl]at HCL;rw[<-hll]at HFN;rw[<-hdl,<-hnl,<-hrl,<-hll];rw[<-hdl,<-hnl,<-hrl,<-hll]at HA;have HLL:=hid hll;have HNL:=hid hnl;clear hdl hnl hrl hll hCK;have hb0:=below1 w (.cells #[.slice A3 dl cap3,.slice A2 nl cap2] 27);have hb1:=Blk.new w 27 #[.slice A3 dl cap3,.slice A2 nl cap2];go_enter Tryz.func3,Tryz.ntmps3
 go_upto_region 1 with fail
 generalize w.alloc (.cells #[.slice A3 dl cap3,.slice A2 nl cap2] 27)=w0 at*;have H0:=hid (And.intro hb1 hb0);clear hb0 hb1;go_wp2_with fail
 refine(head28_any w0 (HTB.out _ H0.out.2)).mono ?_;rintro e w1 ⟨rfl,hb⟩;have H1:=hid (And.intro (H0.out.1.below hb H0.out.1.lt) (HBEL_trans H0.out.2 hb));clear hb H0;have t0:=H1.out.1.at0;have t1:=H1.out.1.at1;have tl:=H1.out.1.lt;go_wp2_with fail
 refine(HSM.out w1 H1.out.2).mono ?_;rintro e w2 ⟨sb,rfl,hb,hf⟩;have H2:=hid (And.intro (H1.out.1.below hb H1.out.1.lt) (HBEL_trans H1.out.2 hb));have HF:=hid hf;clear hb H1 hf t0 t1 tl HSM;cases sb
 ·go_wp2_with fail
  go_ret;exact⟨rfl,H2.out.2⟩
 ·obtain⟨hfine,hten⟩:=HF.out (by first|exact rfl|trivial);have HFI:=hid hfine;replace HCH:=hid (λW hW=>HCH.out W hW HFI.out);replace HCL:=hid (λcas vc hc W hW=>HCL.out cas vc hc W hW HFI.out);clear HF hfine;have t0:=H2.out.1.at0;have t1:=H2.out.1.at1;have tl:=H2.out.1.lt;go_wp2_with fail
  refine(HCH.out w2 H2.out.2).mono ?_;rintro e w3 ⟨rfl,hb⟩;have H3:=hid (And.intro (H2.out.1.below hb H2.out.1.lt) (HBEL_trans H2.out.2 hb));clear hb H2 t0 t1 tl HCH;by_cases hck:CK=0
  ·subst hck;have HFB:=hid (HFN.out ⟨#[98,111,120]⟩);have HFD:=hid (HFN.out id);have HI1:=hid (show findP l ⟨#[98,111,120]⟩<0->boxId∉idsP l from λh=>findP_neg.1 h)
   have HI2:=hid (show ¬findP l id<0->id∈idsP l from λh=>by
    by_cases hm:id∈idsP l
    ·exact hm
    ·exact absurd (findP_neg.2 hm) h)
   clear HFN;generalize findP l ⟨#[98,111,120]⟩=I1 at*;generalize findP l id=I2 at*;(go_wp2_with fail);refine(HFB.out w3 H3.out.2).mono ?_;rintro e w4 ⟨rfl,hw⟩;subst hw;by_cases hi1:0≤I1
   ·(go_wp2_with fail);go_ret;exact⟨rfl,H3.out.2⟩
   ·have hnb:=HI1.out (by omega);have HNB:=hid hnb;clear hnb HI1 HFB;(go_wp2_with fail);refine(HFD.out w3 H3.out.2).mono ?_;rintro e w4 ⟨rfl,hw⟩;subst hw;by_cases hi2:I2<0
    ·(go_wp2_with fail);go_ret;exact⟨rfl,H3.out.2⟩
    ·have HIN:=hid (HI2.out (by omega));clear HI2 HFD;have HB3:=hid (show BoxF w (w3.alloc (.cells #[.string ⟨#[98,111,120]⟩,.slice none 0 0,.string base,.int .i64 0,.slice none 0 0] 42)) w3.heap.size #[.slice A3 dl cap3,.slice A2 nl cap2] #[.string ⟨#[98,111,120]⟩,.slice none 0 0,.string base,.int .i64 0,.slice none 0 0] from⟨H3.out.1.alloc _,Blk.new w3 _ _,H3.out.1.lt,H3.out.2.alloc H3.out.2.size _⟩);(go_upto_region 5 with fail);generalize w3.alloc (.cells #[.string ⟨#[98,111,120]⟩,.slice none 0 0,.string base,.int .i64 0,.slice none 0 0] 42)=w4 at*;generalize w3.heap.size=xb at*;clear H3 hi1 hi2;go_wp2;go_loopw[19] (λiv wr=>∃(k:Nat)(CB:Option Addr)(cn cc:Nat),k≤ll∧iv= .int .i64 k∧BoxF w wr xb #[.slice A3 dl cap3,.slice A2 nl cap2] #[.string ⟨#[98,111,120]⟩,.slice CB cn cc,.string base,.int .i64 0,.slice none 0 0]∧Hid (CasOk Z w t CB cn cc)) (λiv _=>ll-(intOf iv).toNat);case atStart=>exact⟨0,none,0,0,Nat.zero_le _,rfl,HB3.out,hid (Or.inl rfl)⟩
     case round=>
      obtain⟨k,CB,cn,cc,hk,rfl,hbx,hco⟩:=hrel;have HBX:=hid hbx;clear hbx HB3;by_cases hkl:k<ll
      ·(have hkL:k<l.length:=by rw[<-HLL.out];exact hkl);obtain⟨pb,poff,CA,ccap,PA,pcap,hA,hints,hcomp,hfit,hcells⟩:=HPA.out k hkL;subst hA
       have hcls:(classT t l[k].cas).2=0:=by
        obtain⟨-,-,-,c4⟩:=checkP_ok HCKE.out.symm;exact c4 _ (List.getElem_mem hkL)
       obtain⟨hc1,hc2⟩:=classT_ok hcls;have HCL1:=hid (HCL.out _ _ hints);rw[hc1,hcls]at HCL1;obtain⟨tb,toff,hA2,hctl⟩:=HLA.out _ hc2;subst hA2;rw[<-ctl_line' hc2]at hctl;have HCTL:=hid hctl;have HCELL:=hid hcells;have HNEW:=hid (show ctlLine t l[k].cas =false->CasOk Z w t CA l[k].cas.length ccap from λh=>Or.inr ⟨l[k].cas,rfl,hints,hcls,h⟩);(have hln:lineOf t l[k].cas <nl:=by rw[HNL.out];exact hc2);clear hints hcomp hfit hcells hc1 hcls hctl hc2;generalize lineOf t l[k].cas =L at*;generalize ctlLine t l[k].cas =ctl at*;generalize l[k]=p at*;clear hkL;obtain⟨pid,pcas,pcur,pun,pparts⟩:=p;dsimp only at*;(have hn1:((L:Nat):Int)<(nl:Int):=by omega);(have hn0:(0:Int)≤((L:Nat):Int):=by omega);(have hk1:((k:Nat):Int)<(ll:Int):=by omega);(have hk0:(0:Int)≤((k:Nat):Int):=by omega);go_upto_region 8 with fail
       have HC:=hid (λ(W:World)(hW:Below wr.heap.size wr W)=>(show W.cell? ⟨w.heap.size,0,none⟩=some (.slice A3 dl cap3)∧W.cell? ⟨w.heap.size,1,none⟩=some (.slice (some ⟨tb,toff,none⟩) nl cap2)∧
         W.cell? ⟨pb,poff+k*5,none⟩=some (.string pid)∧W.cell? ⟨pb,poff+k*5+1,none⟩=some (.slice CA pcas.length ccap)∧W.cell? ⟨pb,poff+k*5+2,none⟩=some (.string pcur)∧W.cell? ⟨pb,poff+k*5+3,none⟩=some (.int .i64 pun)∧W.cell? ⟨pb,poff+k*5+4,none⟩=some (.slice PA pparts.length pcap) from by
        have h1:=HBX.out.below hW
        exact⟨h1.t.at0,h1.t.at1,HCELL.out W h1.be⟩))
       refine wp_region_S 10 (λW=>Below wr.heap.size wr W) (by kernel_rfl) ?_;have hB0:Below wr.heap.size wr wr.drew:=(Below.refl _ _).drew;have hS:(λW=>Below wr.heap.size wr W) wr.drew:=hB0;generalize wr.drew=x0 at*
       (refine tkS 0 ?_ hS ?_ ?_;rotate_left;intro w hkw;obtain⟨t0,t1,p0,p1,p2,p3,p4⟩:=HC.out _ hkw;clear hkw;go_simp;(try with_reducible rfl);simp only[nr])
       (refine tkZ 1 ?_ hS ?_ ?_;rotate_left;intro w;go_simp;(try with_reducible rfl);simp only[nr])
       (refine tkZ 2 ?_ hS ?_ ?_;rotate_left;intro w;go_simp;(try with_reducible rfl);simp only[nr])
       (refine tkZ 3 ?_ hS ?_ ?_;rotate_left;intro w;go_simp;(try with_reducible rfl);simp only[nr])
       (refine tkZ 4 ?_ hS ?_ ?_;rotate_left;intro w;go_simp;(try with_reducible rfl);simp only[nr])
       (refine tkS 5 ?_ hS ?_ ?_;rotate_left;intro w hkw;obtain⟨t0,t1,p0,p1,p2,p3,p4⟩:=HC.out _ hkw;clear hkw;go_simp;(try with_reducible rfl);simp only[nr])
       clear hS;refine wS1 6 (λK hK=> ?_);(go_wp2_with fail);refine(HCL1.out _ (HBEL_trans HBX.out.be hB0)).mono ?_;rintro e x1 ⟨rfl,hb⟩;have hB1:Below wr.heap.size wr x1:=hB0.trans (hb.mono hB0.size);refine hK _ _ (Or.inr hB1) ?_;clear hK K hb hB0
       (try simp only[nr])
       have hS:(λW=>Below wr.heap.size wr W) x1:=hB1
       (refine tkZ 7 ?_ hS ?_ ?_;rotate_left;intro w;go_simp;(try with_reducible rfl);simp only[nr])
       (refine tkZ 8 ?_ hS ?_ ?_;rotate_left;intro w;go_simp;(try with_reducible rfl);simp only[nr])
       (refine tkZ 9 ?_ hS ?_ ?_;rotate_left;intro w;go_simp;(try with_reducible rfl);simp only[nr])
       clear hS;refine wS1 10 (λK hK=> ?_);(go_wp2_with fail);refine hK _ _ (Or.inl rfl) ?_;clear hK K
       (try simp only[nr])
       refine wS1 11 (λK hK=> ?_);(go_wp2_with fail);refine hK _ _ (Or.inl rfl) ?_;clear hK K
       (try simp only[nr])
       refine wSd ?_ _;have H6:=hid (HBX.out.below hB1);clear hB1 HBX HC HCL1;(rename World=>w8);have hcc:=HCTL.out w8 H6.out.be;have htl:=H6.out.t.at1;have htlt:=H6.out.t.lt;have hcl:=lt_of_cell hcc;(have hq1:¬nl≤L:=by omega);(have hq2:¬((L:Nat):Int)<0:=by omega);cases ctl
       ·have HNW:=hid (HNEW.out (by first|exact rfl|trivial));obtain⟨-,p1,-,-,-⟩:=HCELL.out w8 H6.out.be;have pl1:=lt_of_cell p1;have z1:=H6.out.x.at1;have z2:=H6.out.x.frozen 1;have zl:=H6.out.x.lt;have H7:=hid (H6.out.set 1 (.slice CA pcas.length ccap));go_wp2;clear hcc htl htlt hcl p1 pl1 z1 z2 zl hq1 hq2;go_roundw;(case rel=>exact⟨k+1,CA,pcas.length,ccap,by omega,by go_num,H7.out,HNW⟩);case measure=>first|(simp[intOf];done)|(simp[intOf];omega)
       ·go_wp2;clear hcc htl htlt hcl hq1 hq2;go_roundw;(case rel=>exact⟨k+1,CB,cn,cc,by omega,by go_num,H6.out,hco⟩);case measure=>first|(simp[intOf];done)|(simp[intOf];omega)
      ·(obtain rfl:ll=k:=by omega);have z1:=HBX.out.x.at1;have zl:=HBX.out.x.lt;by_cases hcn:cn=0
       ·subst hcn;(go_wp2_with fail);go_ret;exact⟨rfl,HBX.out.be⟩
       ·rcases hco.out with h|⟨cas,hcn2,hints,hcls,hctl⟩
        ·exact absurd h hcn
        have HCAS:=hid (And.intro hints (And.intro hcls hctl));(have hcn':((cn:Int)==0)=false:=by simpa using hcn);clear hints hcls hctl;obtain⟨⟨g1,g2⟩,⟨g3,g4⟩⟩:=HB12.out;(go_upto_region 15 with fail);(have hcn3:((cas.length:Int)==0)=false:=by rw[<-hcn2];exact hcn');rw[hcn3];clear hcn3;(have hc1:1≤1+one%1000∧1+one%1000≤1000:=by omega);(have hc2:1≤1+two%1000∧1+two%1000≤1000:=by omega);generalize 1+one%1000=c1 at*;generalize 1+two%1000=c2 at*;have HCC:=hid (And.intro hc1 hc2);(have hI1:I64 c1:=by unfold I64;omega);subst hcn2;clear hcn hcn' z1 zl hc1 hc2 g1 g2 g3 g4 HB12;have hbw:=below1 wr (.cells #[.string id,.int .i64 c1] 51);have hx:=HBX.out.below hbw;have z4:=hx.x.at4;have z5:=hx.x.frozen 4;have zl:=hx.x.lt;have hcb:=Blk.new wr 51 #[.string id,.int .i64 c1];have hxl:=HBX.out.x.lt
        have H15:=hid (show BoxF w ((wr.alloc (.cells #[.string id,.int .i64 c1] 51)).setCell ⟨xb,4,none⟩ (.slice (some ⟨wr.heap.size,0,none⟩) 1 1)) xb #[.slice A3 dl cap3,.slice A2 nl cap2] #[.string ⟨#[98,111,120]⟩,.slice CB cas.length cc,.string base,.int .i64 0,.slice (some ⟨wr.heap.size,0,none⟩) 1 1]∧Blk ((wr.alloc (.cells #[.string id,.int .i64 c1] 51)).setCell ⟨xb,4,none⟩ (.slice (some ⟨wr.heap.size,0,none⟩) 1 1)) wr.heap.size 51 #[.string id,.int .i64 c1] from
         ⟨hx.set 4 _,hcb.far (p:=⟨xb,4,none⟩) (by show wr.heap.size≠xb;omega) _⟩)
        clear hbw hx hcb hxl HBX;(go_upto_region 16 with fail);clear z4 z5 zl;generalize (wr.alloc (.cells #[.string id,.int .i64 c1] 51)).setCell ⟨xb,4,none⟩ (.slice (some ⟨wr.heap.size,0,none⟩) 1 1)=w15 at*;generalize wr.heap.size=cg at*;have hAP:=HA.out.pr;rw[HLL.out]at hAP;obtain⟨csl,hE,hrow⟩:=prods_row hAP;rw[<-HLL.out]at hAP;have HROW:=hid hrow;have HEA:=hid hE;have HCLEN:=hid (show csl.flatten.length=ll*5 from by rw[hE.size,HLL.out]);have HONE:=hid (each_one hE);clear hAP hE hrow;go_cut[24] from 131 to 136 (λcv wx=>∃g cap,cv= .slice (some ⟨g,0,none⟩) (ll+1) cap∧wx.ownsRow w15.heap.size 42 5 (.slice (some ⟨g,0,none⟩) (ll+1) cap) (ll+1) (csl.flatten++[.string ⟨#[98,111,120]⟩,.slice CB cas.length cc,.string base,.int .i64 0,.slice (some ⟨cg,0,none⟩) 1 1])∧Below w15.heap.size w15 wx)
        case first=>
         have HC:=hid (λ(W:World)(hW:Below w15.heap.size w15 W)=>(show W.cell? ⟨xb,0,none⟩=some (.string ⟨#[98,111,120]⟩)∧W.cell? ⟨xb,1,none⟩=some (.slice CB cas.length cc)∧W.cell? ⟨xb,2,none⟩=some (.string base)∧W.cell? ⟨xb,3,none⟩=some (.int .i64 0)∧W.cell? ⟨xb,4,none⟩=some (.slice (some ⟨cg,0,none⟩) 1 1) from by
          have h1:=(H15.out.1.below hW).x
          exact⟨h1.at0,h1.at1,h1.at2,h1.at3,h1.at4⟩))
         refine wp_region_S 6 (λW=>Below w15.heap.size w15 W) (by kernel_rfl) ?_;have hB0:Below w15.heap.size w15 w15.drew:=(Below.refl _ _).drew;have hS:(λW=>Below w15.heap.size w15 W) w15.drew:=hB0;generalize w15.drew=x0 at*
         (refine tkZ 1 ?_ hS ?_ ?_;rotate_left;intro w;go_simp;(try with_reducible rfl);simp only[nr])
         (refine tkS 3 ?_ hS ?_ ?_;rotate_left;intro w hkw;obtain⟨z0,z1,z2,z3,z4⟩:=HC.out _ hkw;clear hkw;go_simp;(try with_reducible rfl);simp only[nr])
         clear hS;refine wS2 0 4 (λK hK=> ?_) (λK hK=> ?_)
         ·(go_wp2_with fail);refine hK _ _ (Or.inr (hB0.alloc hB0.size _)) ?_;clear hK K
          (try simp only[nr])
          have hB1:Below w15.heap.size w15 (x0.alloc (.cells #[] 42)):=hB0.alloc hB0.size _;have hE1:(x0.alloc (.cells #[] 42)).ownsRow w15.heap.size 42 5 (.slice (some ⟨x0.heap.size,0,none⟩) 0 0) 0 []:=own_full (Blk.new x0 42 #[]) hB0.size (by decide) rfl;(have hl0:x0.heap.size<(x0.alloc (.cells #[] 42)).heap.size :=by simp);generalize x0.alloc (.cells #[] 42)=x1 at*;refine wS2 2 4 (λK hK=> ?_) (λK hK=> ?_)
          ·refine oper_appendR (.tmp 131) (.tmp 132) _ rfl Tryz.underlying28 Tryz.eProd rfl hE1 rfl HCLEN.out (Row.keep HROW.out (Keeps.of_below (HBEL_trans H15.out.1.be hB1))) HONE.out (by unfold maxLen;omega) (by omega) hB1.size ?_;intro v2 x2 hown hg hat;have hB2:Below w15.heap.size w15 x2:=below_own hB1 hE1 hg hB1.size (Nat.le_refl _);(have hR2:x2.ownsRow w15.heap.size 42 5 v2 ll csl.flatten:=by rw[Nat.zero_add,List.nil_append]at hown;exact hown);refine hK _ _ (Or.inr hB2) ?_;clear hK K hown hg hat;simp only[List.getElem_toArray,List.getElem_cons_zero,List.getElem_cons_succ,nr];refine wS1 4 (λK hK=> ?_);(go_wp2_with fail);refine hK _ _ (Or.inr (hB2.alloc hB2.size _)) ?_;clear hK K
           (try simp only[nr])
           have hB3:Below w15.heap.size w15 (x2.alloc (.cells #[.string ⟨#[98,111,120]⟩,.slice CB cas.length cc,.string base,.int .i64 0,.slice (some ⟨cg,0,none⟩) 1 1] 42)):=hB2.alloc hB2.size _;have hG3:=Blk.new x2 42 #[.string ⟨#[98,111,120]⟩,.slice CB cas.length cc,.string base,.int .i64 0,.slice (some ⟨cg,0,none⟩) 1 1];(have hl2:x2.heap.size<(x2.alloc (.cells #[.string ⟨#[98,111,120]⟩,.slice CB cas.length cc,.string base,.int .i64 0,.slice (some ⟨cg,0,none⟩) 1 1] 42)).heap.size :=by simp);have hR3:=hR2.alloc (.cells #[.string ⟨#[98,111,120]⟩,.slice CB cas.length cc,.string base,.int .i64 0,.slice (some ⟨cg,0,none⟩) 1 1] 42);generalize x2.alloc (.cells #[.string ⟨#[98,111,120]⟩,.slice CB cas.length cc,.string base,.int .i64 0,.slice (some ⟨cg,0,none⟩) 1 1] 42)=x3 at*;refine wS1 5 (λK hK=> ?_);refine oper_append1 (.tmp 133) (.tmp 135) _ rfl Tryz.underlying28 Tryz.eProd rfl hR3 rfl (news:=[.string ⟨#[98,111,120]⟩,.slice CB cas.length cc,.string base,.int .i64 0,.slice (some ⟨cg,0,none⟩) 1 1]) rfl (blkc (cs:=[.string ⟨#[98,111,120]⟩,.slice CB cas.length cc,.string base,.int .i64 0,.slice (some ⟨cg,0,none⟩) 1 1]) hG3) (by simp[Value.oneCell']) (by unfold maxLen;omega) (by omega) hB3.size ?_;intro v9 x4 hown hg hat;have hB4:Below w15.heap.size w15 x4:=below_own hB3 hR3 hg hB3.size (Nat.le_refl _);refine hK _ _ (Or.inr hB4) ?_;clear hK K hg hat;simp only[List.getElem_toArray,List.getElem_cons_zero,List.getElem_cons_succ,nr];obtain⟨g9,cap9,hv9⟩:=own_form hown;subst hv9;refine wS1 6 (λK hK=> ?_);(go_wp2_with fail);refine hK _ _ (Or.inl rfl) ?_;clear hK K
           (try simp only[nr])
           refine wSd ?_ _;(go_wp2_with fail);go_meet;exact⟨g9,cap9,rfl,hown,hB4⟩
          ·(go_wp2_with fail);refine hK _ _ (Or.inr (hB1.alloc hB1.size _)) ?_;clear hK K
           (try simp only[nr])
           have hB2:Below w15.heap.size w15 (x1.alloc (.cells #[.string ⟨#[98,111,120]⟩,.slice CB cas.length cc,.string base,.int .i64 0,.slice (some ⟨cg,0,none⟩) 1 1] 42)):=hB1.alloc hB1.size _;have hG2:=Blk.new x1 42 #[.string ⟨#[98,111,120]⟩,.slice CB cas.length cc,.string base,.int .i64 0,.slice (some ⟨cg,0,none⟩) 1 1];(have hl1:x1.heap.size<(x1.alloc (.cells #[.string ⟨#[98,111,120]⟩,.slice CB cas.length cc,.string base,.int .i64 0,.slice (some ⟨cg,0,none⟩) 1 1] 42)).heap.size :=by simp);have hE2:=hE1.alloc (.cells #[.string ⟨#[98,111,120]⟩,.slice CB cas.length cc,.string base,.int .i64 0,.slice (some ⟨cg,0,none⟩) 1 1] 42);generalize x1.alloc (.cells #[.string ⟨#[98,111,120]⟩,.slice CB cas.length cc,.string base,.int .i64 0,.slice (some ⟨cg,0,none⟩) 1 1] 42)=x2 at*;refine wS1 2 (λK hK=> ?_);refine oper_appendR (.tmp 131) (.tmp 132) _ rfl Tryz.underlying28 Tryz.eProd rfl hE2 rfl HCLEN.out (Row.keep HROW.out (Keeps.of_below (HBEL_trans H15.out.1.be hB2))) HONE.out (by unfold maxLen;omega) (by omega) hB2.size ?_;intro v3 x3 hown hg hat;have hB3:Below w15.heap.size w15 x3:=below_own hB2 hE2 hg hB2.size (Nat.le_refl _);have hG3:=hG2.grown hg (λe=>by injection e with e;have e2:x0.heap.size=x1.heap.size:=e;omega);(have hR3:x3.ownsRow w15.heap.size 42 5 v3 ll csl.flatten:=by rw[Nat.zero_add,List.nil_append]at hown;exact hown);refine hK _ _ (Or.inr hB3) ?_;clear hK K hown hg hat;simp only[List.getElem_toArray,List.getElem_cons_zero,List.getElem_cons_succ,nr];refine wS1 5 (λK hK=> ?_);refine oper_append1 (.tmp 133) (.tmp 135) _ rfl Tryz.underlying28 Tryz.eProd rfl hR3 rfl (news:=[.string ⟨#[98,111,120]⟩,.slice CB cas.length cc,.string base,.int .i64 0,.slice (some ⟨cg,0,none⟩) 1 1]) rfl (blkc (cs:=[.string ⟨#[98,111,120]⟩,.slice CB cas.length cc,.string base,.int .i64 0,.slice (some ⟨cg,0,none⟩) 1 1]) hG3) (by simp[Value.oneCell']) (by unfold maxLen;omega) (by omega) hB3.size ?_;intro v9 x4 hown hg hat;have hB4:Below w15.heap.size w15 x4:=below_own hB3 hR3 hg hB3.size (Nat.le_refl _);refine hK _ _ (Or.inr hB4) ?_;clear hK K hg hat;simp only[List.getElem_toArray,List.getElem_cons_zero,List.getElem_cons_succ,nr];obtain⟨g9,cap9,hv9⟩:=own_form hown;subst hv9;refine wS1 6 (λK hK=> ?_);(go_wp2_with fail);refine hK _ _ (Or.inl rfl) ?_;clear hK K
           (try simp only[nr])
           refine wSd ?_ _;(go_wp2_with fail);go_meet;exact⟨g9,cap9,rfl,hown,hB4⟩
         ·(go_wp2_with fail);refine hK _ _ (Or.inr (hB0.alloc hB0.size _)) ?_;clear hK K
          (try simp only[nr])
          have hB1:Below w15.heap.size w15 (x0.alloc (.cells #[.string ⟨#[98,111,120]⟩,.slice CB cas.length cc,.string base,.int .i64 0,.slice (some ⟨cg,0,none⟩) 1 1] 42)):=hB0.alloc hB0.size _;have hG1:=Blk.new x0 42 #[.string ⟨#[98,111,120]⟩,.slice CB cas.length cc,.string base,.int .i64 0,.slice (some ⟨cg,0,none⟩) 1 1];(have hl0:x0.heap.size<(x0.alloc (.cells #[.string ⟨#[98,111,120]⟩,.slice CB cas.length cc,.string base,.int .i64 0,.slice (some ⟨cg,0,none⟩) 1 1] 42)).heap.size :=by simp);generalize x0.alloc (.cells #[.string ⟨#[98,111,120]⟩,.slice CB cas.length cc,.string base,.int .i64 0,.slice (some ⟨cg,0,none⟩) 1 1] 42)=x1 at*;refine wS1 0 (λK hK=> ?_);(go_wp2_with fail);refine hK _ _ (Or.inr (hB1.alloc hB1.size _)) ?_;clear hK K
          (try simp only[nr])
          have hB2:Below w15.heap.size w15 (x1.alloc (.cells #[] 42)):=hB1.alloc hB1.size _;have hE2:(x1.alloc (.cells #[] 42)).ownsRow w15.heap.size 42 5 (.slice (some ⟨x1.heap.size,0,none⟩) 0 0) 0 []:=own_full (Blk.new x1 42 #[]) hB1.size (by decide) rfl;(have hl1:x1.heap.size<(x1.alloc (.cells #[] 42)).heap.size :=by simp);have hG2:=hG1.alloc (.cells #[] 42);generalize x1.alloc (.cells #[] 42)=x2 at*;refine wS1 2 (λK hK=> ?_);refine oper_appendR (.tmp 131) (.tmp 132) _ rfl Tryz.underlying28 Tryz.eProd rfl hE2 rfl HCLEN.out (Row.keep HROW.out (Keeps.of_below (HBEL_trans H15.out.1.be hB2))) HONE.out (by unfold maxLen;omega) (by omega) hB2.size ?_;intro v3 x3 hown hg hat;have hB3:Below w15.heap.size w15 x3:=below_own hB2 hE2 hg hB2.size (Nat.le_refl _);have hG3:=hG2.grown hg (λe=>by injection e with e;have e2:x1.heap.size=x0.heap.size:=e;omega);(have hR3:x3.ownsRow w15.heap.size 42 5 v3 ll csl.flatten:=by rw[Nat.zero_add,List.nil_append]at hown;exact hown);refine hK _ _ (Or.inr hB3) ?_;clear hK K hown hg hat;simp only[List.getElem_toArray,List.getElem_cons_zero,List.getElem_cons_succ,nr];refine wS1 5 (λK hK=> ?_);refine oper_append1 (.tmp 133) (.tmp 135) _ rfl Tryz.underlying28 Tryz.eProd rfl hR3 rfl (news:=[.string ⟨#[98,111,120]⟩,.slice CB cas.length cc,.string base,.int .i64 0,.slice (some ⟨cg,0,none⟩) 1 1]) rfl (blkc (cs:=[.string ⟨#[98,111,120]⟩,.slice CB cas.length cc,.string base,.int .i64 0,.slice (some ⟨cg,0,none⟩) 1 1]) hG3) (by simp[Value.oneCell']) (by unfold maxLen;omega) (by omega) hB3.size ?_;intro v9 x4 hown hg hat;have hB4:Below w15.heap.size w15 x4:=below_own hB3 hR3 hg hB3.size (Nat.le_refl _);refine hK _ _ (Or.inr hB4) ?_;clear hK K hg hat;simp only[List.getElem_toArray,List.getElem_cons_zero,List.getElem_cons_succ,nr];obtain⟨g9,cap9,hv9⟩:=own_form hown;subst hv9;refine wS1 6 (λK hK=> ?_);(go_wp2_with fail);refine hK _ _ (Or.inl rfl) ?_;clear hK K
          (try simp only[nr])
          refine wSd ?_ _;(go_wp2_with fail);go_meet;exact⟨g9,cap9,rfl,hown,hB4⟩
        case rest=>
         obtain⟨ag,acap,rfl,hown,hb⟩:=hcut;rename World=>w16
         have HAP:=hid (show Prods (λb=>b<w16.heap.size) w16 (.slice (some ⟨ag,0,none⟩) (ll+1) acap) (l++[boxP cas base id c1]) from
          snoc_prods HZ.out H15.out.1.be hb HEA.out (⟨_,_,rfl,(HCAS.out.1.keep (Keeps.of_below H15.out.1.be)).mono (λb h=>Nat.lt_of_lt_of_le (HZ.out b h) H15.out.1.be.size),comp_one H15.out.2 HA.out.is hI1,(by show boxId.size≤_;decide),HA.out.bs,(by show I64 0;unfold I64;omega)⟩:ProdR (λb=>b<w15.heap.size) w15 [.string ⟨#[98,111,120]⟩,.slice CB cas.length cc,.string base,.int .i64 0,.slice (some ⟨cg,0,none⟩) 1 1] (boxP cas base id c1)) (by rw[<-HLL.out];exact hown) (by rw[<-HLL.out];omega))
         have HOWN:=hid hown;have HX:=hid (H15.out.1.below hb);have HLO:=hid H15.out.1.be.size;clear hown hb H15 HROW HONE;(have hl60:l.length<60:=by rw[<-HLL.out];omega);have HW1:=hid (λhv hc hs=>wrap_ok (t:=t) (l:=l) (r:=r) (base:=base) (id:=id) (day:=day) (n:=c1) (cas:=cas) HCKE.out.symm hv hc hs HNB.out HCAS.out.2.1 HCAS.out.2.2 HCC.out.1 hl60);have HW2:=hid (λhv hc hs=>wrap_ok (t:=t) (l:=l) (r:=r) (base:=base) (id:=id) (day:=day) (n:=c2) (cas:=cas) HCKE.out.symm hv hc hs HNB.out HCAS.out.2.1 HCAS.out.2.2 HCC.out.2 hl60);have HSAME:=hid (λa b c=>(HW1.out a b c).same);have HLIM:=hid (λa b c=>(HW1.out a b c).lim);have HMO:=hid (λa b c(hnm:c1≤c2)=>wrap_more (HW1.out a b c) (HW2.out a b c) b hnm);clear HW1 HW2 hl60;obtain⟨bl1,hbl1⟩:∃b,b=l++[boxP cas base id c1]:=⟨_,rfl⟩;obtain⟨bl2,hbl2⟩:∃b,b=l++[boxP cas base id c2]:=⟨_,rfl⟩;rw[<-hbl1]at HSAME HLIM HMO HAP;rw[<-hbl2]at HMO;have HBL2:=hid hbl2;clear hbl1 hbl2
         have HARG:=hid (show ∀W vb bl,Below w.heap.size w W->Prods (λb=>b<W.heap.size) W vb bl->ArgP (λb=>b<W.heap.size) W (.slice A3 dl cap3) (.slice A2 nl cap2) vb (.slice A4 rl cap4) t bl r base id from λW vb bl hW hP=>
          have h:=HA.out.on hW
          ⟨h.tar.mono h.live,hP,⟨h.ra.1.elim λa ha=>ha.elim λc hc=>⟨a,c,hc.1,hc.2.1,hc.2.2.1,hc.2.2.2.1,hc.2.2.2.2.imp (λ_ _ h=>h) (Keeps.refl _ _) h.live⟩,h.ra.2⟩,λ_ h=>h,h.bs,h.is,h.tab⟩)
         have HA1:=hid (HA.out.on HX.out.be);have HA2:=hid (HARG.out w16 _ bl1 HX.out.be HAP.out);have HV1:=hid (λW(hW:Below w16.heap.size w16 W)=>value_any Z _ _ _ _ t l r base id day W (HA1.out.on hW).tar (HA1.out.on hW).pr (HA1.out.on hW).ra (HA1.out.on hW).live HFI.out (HA1.out.on hW).bs (HA1.out.on hW).tab);have HC1:=hid (λW(hW:Below w16.heap.size w16 W)=>controlled_any Z _ _ _ _ t l r base id day W (HA1.out.on hW).tar (HA1.out.on hW).pr (HA1.out.on hW).ra (HA1.out.on hW).live HFI.out (HA1.out.on hW).bs (HA1.out.on hW).tab);have HS1:=hid (λW(hW:Below w16.heap.size w16 W)=>share_any Z _ _ _ _ t l r base id day W (HA1.out.on hW).tar (HA1.out.on hW).pr (HA1.out.on hW).ra (HA1.out.on hW).live HFI.out (HA1.out.on hW).bs (HA1.out.on hW).tab);have HV2:=hid (λW(hW:Below w16.heap.size w16 W)=>value_any (λb=>b<w16.heap.size) _ _ _ _ t bl1 r base ⟨#[98,111,120]⟩ day W (HA2.out.on hW).tar (HA2.out.on hW).pr (HA2.out.on hW).ra (HA2.out.on hW).live HFI.out (HA2.out.on hW).bs (HA2.out.on hW).tab);have HC2:=hid (λW(hW:Below w16.heap.size w16 W)=>controlled_any (λb=>b<w16.heap.size) _ _ _ _ t bl1 r base ⟨#[98,111,120]⟩ day W (HA2.out.on hW).tar (HA2.out.on hW).pr (HA2.out.on hW).ra (HA2.out.on hW).live HFI.out (HA2.out.on hW).bs (HA2.out.on hW).tab);have HS2:=hid (λW(hW:Below w16.heap.size w16 W)=>share_any (λb=>b<w16.heap.size) _ _ _ _ t bl1 r base ⟨#[98,111,120]⟩ day W (HA2.out.on hW).tar (HA2.out.on hW).pr (HA2.out.on hW).ra (HA2.out.on hW).live HFI.out (HA2.out.on hW).bs (HA2.out.on hW).tab);have HV3:=hid (λW(hW:Below w.heap.size w W) vb(hP:Prods (λb=>b<W.heap.size) W vb bl2)=>value_any (λb=>b<W.heap.size) _ _ _ _ t bl2 r base ⟨#[98,111,120]⟩ day W (HARG.out W vb bl2 hW hP).tar (HARG.out W vb bl2 hW hP).pr (HARG.out W vb bl2 hW hP).ra (λ_ h=>h) HFI.out (HARG.out W vb bl2 hW hP).bs (HARG.out W vb bl2 hW hP).tab);have HVR:=hid (value_res t l r base id day);have HCR:=hid (control_res t l r base id day);have HWR:=hid (value_res t bl1 r base ⟨#[98,111,120]⟩ day);have HUR:=hid (value_res t bl2 r base ⟨#[98,111,120]⟩ day);rw[show boxId=⟨#[98,111,120]⟩ from rfl]at HSAME HLIM HMO;clear HA1 HA2 HARG HAP;generalize valueP t l r base id day=V at*;generalize controlP t l r base id day=C at*;generalize shareP t l r base id day=S at*;generalize valueP t bl1 r base ⟨#[98,111,120]⟩ day=WV at*;generalize controlP t bl1 r base ⟨#[98,111,120]⟩ day=WC at*;generalize shareP t bl1 r base ⟨#[98,111,120]⟩ day=WS at*;generalize valueP t bl2 r base ⟨#[98,111,120]⟩ day=UV at*;have HB0:=hid (Below.refl w16.heap.size w16);have t0:=HX.out.t.at0;have t1:=HX.out.t.at1;have tl:=HX.out.t.lt;(go_wp2_with fail);refine(HV1.out w16 HB0.out).mono ?_;obtain⟨va,vb,vc,hV⟩:=rtE_tri V;rw[hV];rintro e u0 ⟨rfl,hb⟩;have HEv:=hid hV;have hb':=hb.alloc hb.size (.cells #[.bool va,.string vb,.string vc] 53);replace HX:=hid (HX.out.below hb');have HBN:=hid (HBEL_trans HB0.out hb');have HXv:=hid (Blk.new u0 53 #[.bool va,.string vb,.string vc]);clear hb hb' t0 t1 tl hV HV1 HB0;have HB1:=HBN;clear HBN;(go_upto_region 18 with fail);generalize u0.alloc (.cells #[.bool va,.string vb,.string vc] 53)=w0' at*;generalize u0.heap.size=xv at*;have t0:=HX.out.t.at0;have t1:=HX.out.t.at1;have tl:=HX.out.t.lt;(go_wp2_with fail);refine(HC1.out w0' HB1.out).mono ?_;obtain⟨ka,kb,kc,hV⟩:=rtE_tri C;rw[hV];rintro e u1 ⟨rfl,hb⟩;have HEk:=hid hV;have hb':=hb.alloc hb.size (.cells #[.bool ka,.string kb,.string kc] 53);replace HX:=hid (HX.out.below hb');have HBN:=hid (HBEL_trans HB1.out hb');replace HXv:=hid (HXv.out.below hb' HXv.out.lt);have HXk:=hid (Blk.new u1 53 #[.bool ka,.string kb,.string kc]);clear hb hb' t0 t1 tl hV HC1 HB1;have HB2:=HBN;clear HBN;(go_upto_region 19 with fail);generalize u1.alloc (.cells #[.bool ka,.string kb,.string kc] 53)=w1' at*;generalize u1.heap.size=xk at*;have t0:=HX.out.t.at0;have t1:=HX.out.t.at1;have tl:=HX.out.t.lt;(go_wp2_with fail);refine(HS1.out w1' HB2.out).mono ?_;rintro e w2' ⟨rfl,hb⟩;replace HX:=hid (HX.out.below hb);have HBN:=hid (HBEL_trans HB2.out hb);replace HXv:=hid (HXv.out.below hb HXv.out.lt);replace HXk:=hid (HXk.out.below hb HXk.out.lt);clear hb t0 t1 tl HS1 HB2;have HB3:=HBN;clear HBN;(go_upto_region 20 with fail);obtain⟨Vr,Ve⟩:=V;obtain⟨Cr,Ce⟩:=C;obtain⟨Sn,Se⟩:=S;dsimp only at*;by_cases hVe:Ve=0;rotate_left
         ·(have p:(Ve !=0)=true:=by simpa using hVe);(go_wp2_with fail);go_ret;exact⟨rfl,HX.out.be⟩
         subst hVe;by_cases hCe:Ce=0;rotate_left
         ·(have p:(Ce !=0)=true:=by simpa using hCe);(go_wp2_with fail);go_ret;exact⟨rfl,HX.out.be⟩
         subst hCe;by_cases hSe:Se=0;rotate_left
         ·(have p:(Se !=0)=true:=by simpa using hSe);(go_wp2_with fail);go_ret;exact⟨rfl,HX.out.be⟩
         subst hSe;have hvr:RtOk Vr:=HVR.out rfl;have hcr:RtOk Cr:=HCR.out rfl;have hvv:rtV Vr= .agg #[.bool va,.string vb,.string vc]:=HEv.out;have hcv:rtV Cr= .agg #[.bool ka,.string kb,.string kc]:=HEk.out;have HOK:=hid (And.intro hvr hcr);have HVV:=hid hvv;have HCV:=hid hcv;replace HSAME:=hid (HSAME.out (by first|exact rfl|trivial) (by first|exact rfl|trivial) (by first|exact rfl|trivial));replace HLIM:=hid (HLIM.out (by first|exact rfl|trivial) (by first|exact rfl|trivial) (by first|exact rfl|trivial));replace HMO:=hid (HMO.out (by first|exact rfl|trivial) (by first|exact rfl|trivial) (by first|exact rfl|trivial));clear HVR HCR HEv HEk hvr hcr hvv hcv;(go_upto_region 22 with fail);have t0:=HX.out.t.at0;have t1:=HX.out.t.at1;have tl:=HX.out.t.lt;(go_wp2_with fail);refine(HV2.out w2' HB3.out).mono ?_;obtain⟨wa,wb,wc,hV⟩:=rtE_tri WV;rw[hV];rintro e u3 ⟨rfl,hb⟩;have HEw:=hid hV;have hb':=hb.alloc hb.size (.cells #[.bool wa,.string wb,.string wc] 53);replace HX:=hid (HX.out.below hb');have HBN:=hid (HBEL_trans HB3.out hb');replace HXv:=hid (HXv.out.below hb' HXv.out.lt);replace HXk:=hid (HXk.out.below hb' HXk.out.lt);have HXw:=hid (Blk.new u3 53 #[.bool wa,.string wb,.string wc]);clear hb hb' t0 t1 tl hV HV2 HB3;have HB4:=HBN;clear HBN;(go_upto_region 23 with fail);generalize u3.alloc (.cells #[.bool wa,.string wb,.string wc] 53)=w3' at*;generalize u3.heap.size=xw at*;have t0:=HX.out.t.at0;have t1:=HX.out.t.at1;have tl:=HX.out.t.lt;(go_wp2_with fail);refine(HC2.out w3' HB4.out).mono ?_;obtain⟨da,db,dc,hV⟩:=rtE_tri WC;rw[hV];rintro e u4 ⟨rfl,hb⟩;have HEd:=hid hV;have hb':=hb.alloc hb.size (.cells #[.bool da,.string db,.string dc] 53);replace HX:=hid (HX.out.below hb');have HBN:=hid (HBEL_trans HB4.out hb');replace HXv:=hid (HXv.out.below hb' HXv.out.lt);replace HXk:=hid (HXk.out.below hb' HXk.out.lt);replace HXw:=hid (HXw.out.below hb' HXw.out.lt);have HXd:=hid (Blk.new u4 53 #[.bool da,.string db,.string dc]);clear hb hb' t0 t1 tl hV HC2 HB4;have HB5:=HBN;clear HBN;(go_upto_region 24 with fail);generalize u4.alloc (.cells #[.bool da,.string db,.string dc] 53)=w4' at*;generalize u4.heap.size=xd at*;have t0:=HX.out.t.at0;have t1:=HX.out.t.at1;have tl:=HX.out.t.lt;(go_wp2_with fail);refine(HS2.out w4' HB5.out).mono ?_;rintro e w5' ⟨rfl,hb⟩;replace HX:=hid (HX.out.below hb);have HBN:=hid (HBEL_trans HB5.out hb);replace HXv:=hid (HXv.out.below hb HXv.out.lt);replace HXk:=hid (HXk.out.below hb HXk.out.lt);replace HXw:=hid (HXw.out.below hb HXw.out.lt);replace HXd:=hid (HXd.out.below hb HXd.out.lt);clear hb t0 t1 tl HS2 HB5;have HB6:=HBN;clear HBN;(go_upto_region 25 with fail);obtain⟨n1a,n1b,n1c,hn⟩:=rt_tri (ofR c1 1);have HNE:=hid hn;have hor:=ofR_rt (n:=c1) (by have:=HCC.out;omega);have HNU:=hid (λX(hX:Below w5'.heap.size w5' X)=>h_num hI1 HNE.out X (HTB.out X (HBEL_trans HX.out.be hX)));have HMU:=hid (λX(hX:Below w5'.heap.size w5' X)=>rmul_any (ofR c1 1) Vr hor HOK.out.1 X (HTB.out X (HBEL_trans HX.out.be hX)));generalize mulR (ofR c1 1) Vr=XX at*;obtain⟨pa,pb,pc,hm⟩:=rtE_tri XX;rw[HNE.out,HVV.out,hm]at HMU;have HEp:=hid hm;clear hm hn hor HNE;(go_upto_region 25 with fail);go_cut[34,35] from 205 to 211 (λvp ve wx=>∃bx,vp= .pointer (some ⟨bx,0,none⟩)∧ve= .int .i64 XX.2∧Blk wx bx 53 #[.bool pa,.string pb,.string pc]∧w5'.heap.size≤bx∧Below w5'.heap.size w5' wx)
         case first=>
          have HC:=hid (λ(W:World)(hW:Below w5'.heap.size w5' W)=>(show W.cell? ⟨xv,0,none⟩=some (.bool va)∧W.cell? ⟨xv,1,none⟩=some (.string vb)∧W.cell? ⟨xv,2,none⟩=some (.string vc) from by
           have h1:=HXv.out.below hW HXv.out.lt
           exact⟨h1.at0,h1.at1,h1.at2⟩))
          refine wp_region_S 8 (λW=>Below w5'.heap.size w5' W) (by kernel_rfl) ?_;have hB0:Below w5'.heap.size w5' w5'.drew:=(Below.refl _ _).drew;have hS:(λW=>Below w5'.heap.size w5' W) w5'.drew:=hB0;generalize w5'.drew=x0 at*
          (refine tkZ 0 ?_ hS ?_ ?_;rotate_left;intro w;go_simp;(try with_reducible rfl);simp only[nr])
          (refine tkS 2 ?_ hS ?_ ?_;rotate_left;intro w hkw;obtain⟨q0,q1,q2⟩:=HC.out _ hkw;clear hkw;go_simp;(try with_reducible rfl);simp only[nr])
          clear hS;refine wS2 1 7 (λK hK=> ?_) (λK hK=> ?_)
          ·(go_wp2_with fail);refine(HNU.out _ hB0).mono ?_;rintro e x1 ⟨rfl,hb⟩;have hB1:Below w5'.heap.size w5' x1:=hB0.trans (hb.mono hB0.size);refine hK _ _ (Or.inr hB1) ?_;clear hK K hb
           (try simp only[nr])
           refine wS2 3 7 (λK hK=> ?_) (λK hK=> ?_)
           ·(go_wp2_with fail);refine(HMU.out _ hB1).mono ?_;rintro e x2 ⟨rfl,hb⟩;have hB2:Below w5'.heap.size w5' x2:=hB1.trans (hb.mono hB1.size);refine hK _ _ (Or.inr hB2) ?_;clear hK K hb
            (try simp only[nr])
            have hS:(λW=>Below w5'.heap.size w5' W) x2:=hB2
            (refine tkZ 4 ?_ hS ?_ ?_;rotate_left;intro w;go_simp;(try with_reducible rfl);simp only[nr])
            (refine tkZ 5 ?_ hS ?_ ?_;rotate_left;intro w;go_simp;(try with_reducible rfl);simp only[nr])
            (refine tkZ 6 ?_ hS ?_ ?_;rotate_left;intro w;go_simp;(try with_reducible rfl);simp only[nr])
            clear hS;refine wS1 7 (λK hK=> ?_);(go_wp2_with fail);refine hK _ _ (Or.inr (hB2.alloc hB2.size _)) ?_;clear hK K
            (try simp only[nr])
            have hB3:Below w5'.heap.size w5' (x2.alloc (.cells #[.bool false,.string ⟨#[]⟩,.string ⟨#[]⟩] 53)):=hB2.alloc hB2.size _;have hX3:=Blk.new x2 53 #[.bool false,.string ⟨#[]⟩,.string ⟨#[]⟩];generalize x2.alloc (.cells #[.bool false,.string ⟨#[]⟩,.string ⟨#[]⟩] 53)=x3 at*;refine wS1 8 (λK hK=> ?_);have c0:=hX3.at0;have c1:=hX3.at1;have c2:=hX3.at2;have g0:=hX3.frozen 0;have g1:=hX3.frozen 1;have g2:=hX3.frozen 2;have cl:=hX3.lt;have HXX:=hid hX3;clear hX3;(go_wp2_with fail);refine hK _ _ (Or.inl rfl) ?_;clear hK K
            (try simp only[nr])
            refine wS1 9 (λK hK=> ?_);(go_wp2_with fail);refine hK _ _ (Or.inl rfl) ?_;clear hK K
            (try simp only[nr])
            refine wSd ?_ _;(go_wp2_with fail);go_meet;exact⟨x2.heap.size,rfl,rfl,((HXX.out.set_ 0 _).set_ 1 _).set_ 2 _,hB2.size,((hB3.setCell hB2.size _).setCell hB2.size _).setCell hB2.size _⟩
           ·(go_wp2_with fail);refine hK _ _ (Or.inr (hB1.alloc hB1.size _)) ?_;clear hK K
            (try simp only[nr])
            have hB2:Below w5'.heap.size w5' (x1.alloc (.cells #[.bool false,.string ⟨#[]⟩,.string ⟨#[]⟩] 53)):=hB1.alloc hB1.size _;have hX2:=Blk.new x1 53 #[.bool false,.string ⟨#[]⟩,.string ⟨#[]⟩];generalize x1.alloc (.cells #[.bool false,.string ⟨#[]⟩,.string ⟨#[]⟩] 53)=x2 at*;refine wS1 3 (λK hK=> ?_);(go_wp2_with fail);refine(HMU.out _ hB2).mono ?_;rintro e x3 ⟨rfl,hb⟩;have hB3:Below w5'.heap.size w5' x3:=hB2.trans (hb.mono hB2.size);have hX3:=hX2.below hb hX2.lt;refine hK _ _ (Or.inr hB3) ?_;clear hK K hb
            (try simp only[nr])
            have hS:(λW=>Below w5'.heap.size w5' W) x3:=hB3
            (refine tkZ 4 ?_ hS ?_ ?_;rotate_left;intro w;go_simp;(try with_reducible rfl);simp only[nr])
            (refine tkZ 5 ?_ hS ?_ ?_;rotate_left;intro w;go_simp;(try with_reducible rfl);simp only[nr])
            (refine tkZ 6 ?_ hS ?_ ?_;rotate_left;intro w;go_simp;(try with_reducible rfl);simp only[nr])
            clear hS;refine wS1 8 (λK hK=> ?_);have c0:=hX3.at0;have c1:=hX3.at1;have c2:=hX3.at2;have g0:=hX3.frozen 0;have g1:=hX3.frozen 1;have g2:=hX3.frozen 2;have cl:=hX3.lt;have HXX:=hid hX3;clear hX3;(go_wp2_with fail);refine hK _ _ (Or.inl rfl) ?_;clear hK K
            (try simp only[nr])
            refine wS1 9 (λK hK=> ?_);(go_wp2_with fail);refine hK _ _ (Or.inl rfl) ?_;clear hK K
            (try simp only[nr])
            refine wSd ?_ _;(go_wp2_with fail);go_meet;exact⟨x1.heap.size,rfl,rfl,((HXX.out.set_ 0 _).set_ 1 _).set_ 2 _,hB1.size,((hB3.setCell hB1.size _).setCell hB1.size _).setCell hB1.size _⟩
          ·(go_wp2_with fail);refine hK _ _ (Or.inr (hB0.alloc hB0.size _)) ?_;clear hK K
           (try simp only[nr])
           have hB1:Below w5'.heap.size w5' (x0.alloc (.cells #[.bool false,.string ⟨#[]⟩,.string ⟨#[]⟩] 53)):=hB0.alloc hB0.size _;have hX1:=Blk.new x0 53 #[.bool false,.string ⟨#[]⟩,.string ⟨#[]⟩];generalize x0.alloc (.cells #[.bool false,.string ⟨#[]⟩,.string ⟨#[]⟩] 53)=x1 at*;refine wS1 1 (λK hK=> ?_);(go_wp2_with fail);refine(HNU.out _ hB1).mono ?_;rintro e x2 ⟨rfl,hb⟩;have hB2:Below w5'.heap.size w5' x2:=hB1.trans (hb.mono hB1.size);have hX2:=hX1.below hb hX1.lt;refine hK _ _ (Or.inr hB2) ?_;clear hK K hb
           (try simp only[nr])
           refine wS1 3 (λK hK=> ?_);(go_wp2_with fail);refine(HMU.out _ hB2).mono ?_;rintro e x3 ⟨rfl,hb⟩;have hB3:Below w5'.heap.size w5' x3:=hB2.trans (hb.mono hB2.size);have hX3:=hX2.below hb hX2.lt;refine hK _ _ (Or.inr hB3) ?_;clear hK K hb
           (try simp only[nr])
           have hS:(λW=>Below w5'.heap.size w5' W) x3:=hB3
           (refine tkZ 4 ?_ hS ?_ ?_;rotate_left;intro w;go_simp;(try with_reducible rfl);simp only[nr])
           (refine tkZ 5 ?_ hS ?_ ?_;rotate_left;intro w;go_simp;(try with_reducible rfl);simp only[nr])
           (refine tkZ 6 ?_ hS ?_ ?_;rotate_left;intro w;go_simp;(try with_reducible rfl);simp only[nr])
           clear hS;refine wS1 8 (λK hK=> ?_);have c0:=hX3.at0;have c1:=hX3.at1;have c2:=hX3.at2;have g0:=hX3.frozen 0;have g1:=hX3.frozen 1;have g2:=hX3.frozen 2;have cl:=hX3.lt;have HXX:=hid hX3;clear hX3;(go_wp2_with fail);refine hK _ _ (Or.inl rfl) ?_;clear hK K
           (try simp only[nr])
           refine wS1 9 (λK hK=> ?_);(go_wp2_with fail);refine hK _ _ (Or.inl rfl) ?_;clear hK K
           (try simp only[nr])
           refine wSd ?_ _;(go_wp2_with fail);go_meet;exact⟨x0.heap.size,rfl,rfl,((HXX.out.set_ 0 _).set_ 1 _).set_ 2 _,hB0.size,((hB3.setCell hB0.size _).setCell hB0.size _).setCell hB0.size _⟩
         case rest=>
          obtain⟨xp,rfl,rfl,hx,hxl,hb⟩:=hcut;(rename World=>w6');replace HX:=hid (HX.out.below hb);have HBN:=hid (HBEL_trans HB6.out hb);replace HXv:=hid (HXv.out.below hb HXv.out.lt);replace HXk:=hid (HXk.out.below hb HXk.out.lt);replace HXw:=hid (HXw.out.below hb HXw.out.lt);replace HXd:=hid (HXd.out.below hb HXd.out.lt);have HXp:=hid hx;clear hx hxl hb HB6 HNU HMU;have HB7:=HBN;clear HBN;obtain⟨n2a,n2b,n2c,hn⟩:=rt_tri (ofR c1 1);have HNE:=hid hn;have hor:=ofR_rt (n:=c1) (by have:=HCC.out;omega);have HNU:=hid (λX(hX:Below w6'.heap.size w6' X)=>h_num hI1 HNE.out X (HTB.out X (HBEL_trans HX.out.be hX)));have HMU:=hid (λX(hX:Below w6'.heap.size w6' X)=>rmul_any (ofR c1 1) Cr hor HOK.out.2 X (HTB.out X (HBEL_trans HX.out.be hX)));generalize mulR (ofR c1 1) Cr=YY at*;obtain⟨ya,yb,yc,hm⟩:=rtE_tri YY;rw[HNE.out,HCV.out,hm]at HMU;have HEy:=hid hm;clear hm hn hor HNE;(go_upto_region 26 with fail);go_cut[36,37] from 212 to 218 (λvp ve wx=>∃bx,vp= .pointer (some ⟨bx,0,none⟩)∧ve= .int .i64 YY.2∧Blk wx bx 53 #[.bool ya,.string yb,.string yc]∧w6'.heap.size≤bx∧Below w6'.heap.size w6' wx)
          case first=>
           have HC:=hid (λ(W:World)(hW:Below w6'.heap.size w6' W)=>(show W.cell? ⟨xk,0,none⟩=some (.bool ka)∧W.cell? ⟨xk,1,none⟩=some (.string kb)∧W.cell? ⟨xk,2,none⟩=some (.string kc) from by
            have h1:=HXk.out.below hW HXk.out.lt
            exact⟨h1.at0,h1.at1,h1.at2⟩))
           refine wp_region_S 8 (λW=>Below w6'.heap.size w6' W) (by kernel_rfl) ?_;have hB0:Below w6'.heap.size w6' w6'.drew:=(Below.refl _ _).drew;have hS:(λW=>Below w6'.heap.size w6' W) w6'.drew:=hB0;generalize w6'.drew=x0 at*
           (refine tkZ 0 ?_ hS ?_ ?_;rotate_left;intro w;go_simp;(try with_reducible rfl);simp only[nr])
           (refine tkS 2 ?_ hS ?_ ?_;rotate_left;intro w hkw;obtain⟨q0,q1,q2⟩:=HC.out _ hkw;clear hkw;go_simp;(try with_reducible rfl);simp only[nr])
           clear hS;refine wS2 1 7 (λK hK=> ?_) (λK hK=> ?_)
           ·(go_wp2_with fail);refine(HNU.out _ hB0).mono ?_;rintro e x1 ⟨rfl,hb⟩;have hB1:Below w6'.heap.size w6' x1:=hB0.trans (hb.mono hB0.size);refine hK _ _ (Or.inr hB1) ?_;clear hK K hb
            (try simp only[nr])
            refine wS2 3 7 (λK hK=> ?_) (λK hK=> ?_)
            ·(go_wp2_with fail);refine(HMU.out _ hB1).mono ?_;rintro e x2 ⟨rfl,hb⟩;have hB2:Below w6'.heap.size w6' x2:=hB1.trans (hb.mono hB1.size);refine hK _ _ (Or.inr hB2) ?_;clear hK K hb
             (try simp only[nr])
             have hS:(λW=>Below w6'.heap.size w6' W) x2:=hB2
             (refine tkZ 4 ?_ hS ?_ ?_;rotate_left;intro w;go_simp;(try with_reducible rfl);simp only[nr])
             (refine tkZ 5 ?_ hS ?_ ?_;rotate_left;intro w;go_simp;(try with_reducible rfl);simp only[nr])
             (refine tkZ 6 ?_ hS ?_ ?_;rotate_left;intro w;go_simp;(try with_reducible rfl);simp only[nr])
             clear hS;refine wS1 7 (λK hK=> ?_);(go_wp2_with fail);refine hK _ _ (Or.inr (hB2.alloc hB2.size _)) ?_;clear hK K
             (try simp only[nr])
             have hB3:Below w6'.heap.size w6' (x2.alloc (.cells #[.bool false,.string ⟨#[]⟩,.string ⟨#[]⟩] 53)):=hB2.alloc hB2.size _;have hX3:=Blk.new x2 53 #[.bool false,.string ⟨#[]⟩,.string ⟨#[]⟩];generalize x2.alloc (.cells #[.bool false,.string ⟨#[]⟩,.string ⟨#[]⟩] 53)=x3 at*;refine wS1 8 (λK hK=> ?_);have c0:=hX3.at0;have c1:=hX3.at1;have c2:=hX3.at2;have g0:=hX3.frozen 0;have g1:=hX3.frozen 1;have g2:=hX3.frozen 2;have cl:=hX3.lt;have HXX:=hid hX3;clear hX3;(go_wp2_with fail);refine hK _ _ (Or.inl rfl) ?_;clear hK K
             (try simp only[nr])
             refine wS1 9 (λK hK=> ?_);(go_wp2_with fail);refine hK _ _ (Or.inl rfl) ?_;clear hK K
             (try simp only[nr])
             refine wSd ?_ _;(go_wp2_with fail);go_meet;exact⟨x2.heap.size,rfl,rfl,((HXX.out.set_ 0 _).set_ 1 _).set_ 2 _,hB2.size,((hB3.setCell hB2.size _).setCell hB2.size _).setCell hB2.size _⟩
            ·(go_wp2_with fail);refine hK _ _ (Or.inr (hB1.alloc hB1.size _)) ?_;clear hK K
             (try simp only[nr])
             have hB2:Below w6'.heap.size w6' (x1.alloc (.cells #[.bool false,.string ⟨#[]⟩,.string ⟨#[]⟩] 53)):=hB1.alloc hB1.size _;have hX2:=Blk.new x1 53 #[.bool false,.string ⟨#[]⟩,.string ⟨#[]⟩];generalize x1.alloc (.cells #[.bool false,.string ⟨#[]⟩,.string ⟨#[]⟩] 53)=x2 at*;refine wS1 3 (λK hK=> ?_);(go_wp2_with fail);refine(HMU.out _ hB2).mono ?_;rintro e x3 ⟨rfl,hb⟩;have hB3:Below w6'.heap.size w6' x3:=hB2.trans (hb.mono hB2.size);have hX3:=hX2.below hb hX2.lt;refine hK _ _ (Or.inr hB3) ?_;clear hK K hb
             (try simp only[nr])
             have hS:(λW=>Below w6'.heap.size w6' W) x3:=hB3
             (refine tkZ 4 ?_ hS ?_ ?_;rotate_left;intro w;go_simp;(try with_reducible rfl);simp only[nr])
             (refine tkZ 5 ?_ hS ?_ ?_;rotate_left;intro w;go_simp;(try with_reducible rfl);simp only[nr])
             (refine tkZ 6 ?_ hS ?_ ?_;rotate_left;intro w;go_simp;(try with_reducible rfl);simp only[nr])
             clear hS;refine wS1 8 (λK hK=> ?_);have c0:=hX3.at0;have c1:=hX3.at1;have c2:=hX3.at2;have g0:=hX3.frozen 0;have g1:=hX3.frozen 1;have g2:=hX3.frozen 2;have cl:=hX3.lt;have HXX:=hid hX3;clear hX3;(go_wp2_with fail);refine hK _ _ (Or.inl rfl) ?_;clear hK K
             (try simp only[nr])
             refine wS1 9 (λK hK=> ?_);(go_wp2_with fail);refine hK _ _ (Or.inl rfl) ?_;clear hK K
             (try simp only[nr])
             refine wSd ?_ _;(go_wp2_with fail);go_meet;exact⟨x1.heap.size,rfl,rfl,((HXX.out.set_ 0 _).set_ 1 _).set_ 2 _,hB1.size,((hB3.setCell hB1.size _).setCell hB1.size _).setCell hB1.size _⟩
           ·(go_wp2_with fail);refine hK _ _ (Or.inr (hB0.alloc hB0.size _)) ?_;clear hK K
            (try simp only[nr])
            have hB1:Below w6'.heap.size w6' (x0.alloc (.cells #[.bool false,.string ⟨#[]⟩,.string ⟨#[]⟩] 53)):=hB0.alloc hB0.size _;have hX1:=Blk.new x0 53 #[.bool false,.string ⟨#[]⟩,.string ⟨#[]⟩];generalize x0.alloc (.cells #[.bool false,.string ⟨#[]⟩,.string ⟨#[]⟩] 53)=x1 at*;refine wS1 1 (λK hK=> ?_);(go_wp2_with fail);refine(HNU.out _ hB1).mono ?_;rintro e x2 ⟨rfl,hb⟩;have hB2:Below w6'.heap.size w6' x2:=hB1.trans (hb.mono hB1.size);have hX2:=hX1.below hb hX1.lt;refine hK _ _ (Or.inr hB2) ?_;clear hK K hb
            (try simp only[nr])
            refine wS1 3 (λK hK=> ?_);(go_wp2_with fail);refine(HMU.out _ hB2).mono ?_;rintro e x3 ⟨rfl,hb⟩;have hB3:Below w6'.heap.size w6' x3:=hB2.trans (hb.mono hB2.size);have hX3:=hX2.below hb hX2.lt;refine hK _ _ (Or.inr hB3) ?_;clear hK K hb
            (try simp only[nr])
            have hS:(λW=>Below w6'.heap.size w6' W) x3:=hB3
            (refine tkZ 4 ?_ hS ?_ ?_;rotate_left;intro w;go_simp;(try with_reducible rfl);simp only[nr])
            (refine tkZ 5 ?_ hS ?_ ?_;rotate_left;intro w;go_simp;(try with_reducible rfl);simp only[nr])
            (refine tkZ 6 ?_ hS ?_ ?_;rotate_left;intro w;go_simp;(try with_reducible rfl);simp only[nr])
            clear hS;refine wS1 8 (λK hK=> ?_);have c0:=hX3.at0;have c1:=hX3.at1;have c2:=hX3.at2;have g0:=hX3.frozen 0;have g1:=hX3.frozen 1;have g2:=hX3.frozen 2;have cl:=hX3.lt;have HXX:=hid hX3;clear hX3;(go_wp2_with fail);refine hK _ _ (Or.inl rfl) ?_;clear hK K
            (try simp only[nr])
            refine wS1 9 (λK hK=> ?_);(go_wp2_with fail);refine hK _ _ (Or.inl rfl) ?_;clear hK K
            (try simp only[nr])
            refine wSd ?_ _;(go_wp2_with fail);go_meet;exact⟨x0.heap.size,rfl,rfl,((HXX.out.set_ 0 _).set_ 1 _).set_ 2 _,hB0.size,((hB3.setCell hB0.size _).setCell hB0.size _).setCell hB0.size _⟩
          case rest=>
           obtain⟨xy,rfl,rfl,hx,hxl,hb⟩:=hcut;(rename World=>w7');replace HX:=hid (HX.out.below hb);have HBN:=hid (HBEL_trans HB7.out hb);replace HXv:=hid (HXv.out.below hb HXv.out.lt);replace HXk:=hid (HXk.out.below hb HXk.out.lt);replace HXw:=hid (HXw.out.below hb HXw.out.lt);replace HXd:=hid (HXd.out.below hb HXd.out.lt);replace HXp:=hid (HXp.out.below hb HXp.out.lt);have HXy:=hid hx;clear hx hxl hb HB7 HNU HMU;have HB8:=HBN;clear HBN;obtain⟨Wr,we⟩:=WV;obtain⟨Dr,de⟩:=WC;obtain⟨Mn,me⟩:=WS;obtain⟨Xr,xe⟩:=XX;obtain⟨Yr,ye⟩:=YY;dsimp only at*;(go_upto_region 27 with fail);by_cases hwe:we=0;rotate_left
           ·(have p:(we !=0)=true:=by simpa using hwe);have hl:=HLIM.out (λq=>hwe q.1);(go_upto_region 28 with fail);clear p;by_cases g0:we=2
            ·subst g0;(go_wp2_with fail);go_ret;exact⟨rfl,HX.out.be⟩
            (have r0:(we==2)=false:=by simpa using g0);by_cases g1:de=2
            ·subst g1;(go_wp2_with fail);go_ret;exact⟨rfl,HX.out.be⟩
            (have r1:(de==2)=false:=by simpa using g1);by_cases g2:me=2
            ·subst g2;(go_wp2_with fail);go_ret;exact⟨rfl,HX.out.be⟩
            (have r2:(me==2)=false:=by simpa using g2);by_cases g3:xe=2
            ·subst g3;(go_wp2_with fail);go_ret;exact⟨rfl,HX.out.be⟩
            (have r3:(xe==2)=false:=by simpa using g3);by_cases g4:ye=2
            ·subst g4;(go_wp2_with fail);go_ret;exact⟨rfl,HX.out.be⟩
            (have r4:(ye==2)=false:=by simpa using g4);exfalso;rcases hl with h|h|h|h|h
            ·exact g0 h
            ·exact g1 h
            ·exact g2 h
            ·exact g3 h
            ·exact g4 h
           subst hwe;by_cases hde:de=0;rotate_left
           ·(have p:(de !=0)=true:=by simpa using hde);have hl:=HLIM.out (λq=>hde q.2.1);(go_upto_region 28 with fail);clear p;by_cases g1:de=2
            ·subst g1;(go_wp2_with fail);go_ret;exact⟨rfl,HX.out.be⟩
            (have r1:(de==2)=false:=by simpa using g1);by_cases g2:me=2
            ·subst g2;(go_wp2_with fail);go_ret;exact⟨rfl,HX.out.be⟩
            (have r2:(me==2)=false:=by simpa using g2);by_cases g3:xe=2
            ·subst g3;(go_wp2_with fail);go_ret;exact⟨rfl,HX.out.be⟩
            (have r3:(xe==2)=false:=by simpa using g3);by_cases g4:ye=2
            ·subst g4;(go_wp2_with fail);go_ret;exact⟨rfl,HX.out.be⟩
            (have r4:(ye==2)=false:=by simpa using g4);exfalso;rcases hl with h|h|h|h|h
            ·exact absurd h (by decide)
            ·exact g1 h
            ·exact g2 h
            ·exact g3 h
            ·exact g4 h
           subst hde;by_cases hme:me=0;rotate_left
           ·(have p:(me !=0)=true:=by simpa using hme);have hl:=HLIM.out (λq=>hme q.2.2.1);(go_upto_region 28 with fail);clear p;by_cases g2:me=2
            ·subst g2;(go_wp2_with fail);go_ret;exact⟨rfl,HX.out.be⟩
            (have r2:(me==2)=false:=by simpa using g2);by_cases g3:xe=2
            ·subst g3;(go_wp2_with fail);go_ret;exact⟨rfl,HX.out.be⟩
            (have r3:(xe==2)=false:=by simpa using g3);by_cases g4:ye=2
            ·subst g4;(go_wp2_with fail);go_ret;exact⟨rfl,HX.out.be⟩
            (have r4:(ye==2)=false:=by simpa using g4);exfalso;rcases hl with h|h|h|h|h
            ·exact absurd h (by decide)
            ·exact absurd h (by decide)
            ·exact g2 h
            ·exact g3 h
            ·exact g4 h
           subst hme;by_cases hxe:xe=0;rotate_left
           ·(have p:(xe !=0)=true:=by simpa using hxe);have hl:=HLIM.out (λq=>hxe q.2.2.2.1);(go_upto_region 28 with fail);clear p;by_cases g3:xe=2
            ·subst g3;(go_wp2_with fail);go_ret;exact⟨rfl,HX.out.be⟩
            (have r3:(xe==2)=false:=by simpa using g3);by_cases g4:ye=2
            ·subst g4;(go_wp2_with fail);go_ret;exact⟨rfl,HX.out.be⟩
            (have r4:(ye==2)=false:=by simpa using g4);exfalso;rcases hl with h|h|h|h|h
            ·exact absurd h (by decide)
            ·exact absurd h (by decide)
            ·exact absurd h (by decide)
            ·exact g3 h
            ·exact g4 h
           subst hxe;by_cases hye:ye=0;rotate_left
           ·(have p:(ye !=0)=true:=by simpa using hye);have hl:=HLIM.out (λq=>hye q.2.2.2.2);(go_upto_region 28 with fail);clear p;by_cases g4:ye=2
            ·subst g4;(go_wp2_with fail);go_ret;exact⟨rfl,HX.out.be⟩
            (have r4:(ye==2)=false:=by simpa using g4);exfalso;rcases hl with h|h|h|h|h
            ·exact absurd h (by decide)
            ·exact absurd h (by decide)
            ·exact absurd h (by decide)
            ·exact absurd h (by decide)
            ·exact g4 h
           subst hye;obtain⟨s1,s2,s3⟩:=HSAME.out (by first|exact rfl|trivial) (by first|exact rfl|trivial) (by first|exact rfl|trivial) (by first|exact rfl|trivial) (by first|exact rfl|trivial);have s4:=congrArg rtE s1;have s5:=congrArg rtE s2;rw[HEw.out,HEp.out]at s4;rw[HEd.out,HEy.out]at s5;obtain⟨rfl,rfl,rfl⟩:=agg3 s4;obtain⟨rfl,rfl,rfl⟩:=agg3 s5;subst s3;clear s1 s2 s4 s5 HSAME HLIM HEp HEd HEy;have kw0:=HXw.out.at0;have kw1:=HXw.out.at1;have kw2:=HXw.out.at2;have kwl:=HXw.out.lt;have kd0:=HXd.out.at0;have kd1:=HXd.out.at1;have kd2:=HXd.out.at2;have kdl:=HXd.out.lt;have kp0:=HXp.out.at0;have kp1:=HXp.out.at1;have kp2:=HXp.out.at2;have kpl:=HXp.out.lt;have ky0:=HXy.out.at0;have ky1:=HXy.out.at1;have ky2:=HXy.out.at2;have kyl:=HXy.out.lt;(go_upto_region 31 with(first|(refine wpList_neSame (by kernel_rfl) _ _ rfl wa wb wc rfl rfl ?_)|(refine wpList_neSame (by kernel_rfl) _ _ rfl da db dc rfl rfl ?_)));clear kw0 kw1 kw2 kwl kd0 kd1 kd2 kdl kp0 kp1 kp2 kpl ky0 ky1 ky2 kyl;have HOK31:=hid (own_keep (Z:=λ_=>True) HOWN.out (Keeps.of_below HB8.out) (λ_ _=>trivial));have hlc:=last_cell (a:= .string ⟨#[98,111,120]⟩) (b:= .slice CB cas.length cc) (c:= .string base) (d:= .int .i64 0) (e:= .slice (some ⟨cg,0,none⟩) 1 1) HCLEN.out;have hbw:=below1 w7' (.cells #[.string id,.int .i64 c2] 51);have how:=own_keep (Z:=λ_=>True) HOK31.out (Keeps.of_below hbw) (λ_ _=>trivial);obtain⟨y0,y1⟩:=own_cellN how hlc.1;have yl:=(how.lt ag rfl).2;have hcb:=Blk.new w7' 51 #[.string id,.int .i64 c2];(have hla:((ll:Nat):Int)<((ll+1:Nat):Int):=by omega);(have hla0:(0:Int)≤((ll:Nat):Int):=by omega);have hon:=own_setN how (ll*5+4) (.slice (some ⟨w7'.heap.size,0,none⟩) 1 1);rw[hlc.2]at hon;have hag:=(how.lt ag rfl).1;have hxw:=HXw.out.below hbw HXw.out.lt;have hxt:=HX.out.below hbw;(have hne1:ag≠xw:=λe=>own_ne_blk hxw how (by decide) (by rw[<-e];rfl));(have hne2:ag≠w.heap.size:=λe=>own_ne_blk hxt.t how (by decide) (by rw[<-e];rfl));(have hne3:w7'.heap.size≠ag:=by have:=(HOK31.out.lt ag rfl).2;omega);have HN:=hid (And.intro hon (And.intro (hxw.far (p:=⟨ag,ll*5+4,none⟩) (Ne.symm hne1) (.slice (some ⟨w7'.heap.size,0,none⟩) 1 1)) (And.intro (hxt.t.far (p:=⟨ag,ll*5+4,none⟩) (Ne.symm hne2) (.slice (some ⟨w7'.heap.size,0,none⟩) 1 1)) (And.intro (hcb.far (p:=⟨ag,ll*5+4,none⟩) hne3 (.slice (some ⟨w7'.heap.size,0,none⟩) 1 1)) (hxt.be.setCell (p:=⟨ag,ll*5+4,none⟩) (by show w.heap.size≤ag;have:=HLO.out;omega) (.slice (some ⟨w7'.heap.size,0,none⟩) 1 1))))));clear hlc hbw how hcb hon hag hxw hxt hne1 hne2 hne3 HOK31;(go_upto_region 32 with fail);clear y0 y1 yl hla hla0;generalize (w7'.alloc (.cells #[.string id,.int .i64 c2] 51)).setCell ⟨ag,ll*5+4,none⟩ (.slice (some ⟨w7'.heap.size,0,none⟩) 1 1)=w31 at*;generalize w7'.heap.size=cg2 at*;have hI2:I64 c2:=by have:=HCC.out.2;unfold I64;omega
           have HP2:=hid (show Prods (λb=>b<w31.heap.size) w31 (.slice (some ⟨ag,0,none⟩) (ll+1) acap) bl2 from by
            rw[HBL2.out]
            exact snoc_prods HZ.out HN.out.2.2.2.2 (Below.refl _ _) HEA.out (⟨_,_,rfl,(HCAS.out.1.keep (Keeps.of_below HN.out.2.2.2.2)).mono (λb h=>Nat.lt_of_lt_of_le (HZ.out b h) HN.out.2.2.2.2.size),comp_one HN.out.2.2.2.1 HA.out.is hI2,(by show boxId.size≤_;decide),HA.out.bs,(by show I64 0;unfold I64;omega)⟩:ProdR (λb=>b<w31.heap.size) w31 [.string ⟨#[98,111,120]⟩,.slice CB cas.length cc,.string base,.int .i64 0,.slice (some ⟨cg2,0,none⟩) 1 1] (boxP cas base id c2)) (by rw[<-HLL.out];exact HN.out.1) (by rw[<-HLL.out];omega))
           have HU3:=hid (HV3.out w31 HN.out.2.2.2.2 _ HP2.out);have t0:=HN.out.2.2.1.at0;have t1:=HN.out.2.2.1.at1;have tl:=HN.out.2.2.1.lt;clear HP2 HV3;(go_wp2_with fail);refine HU3.out.mono ?_;obtain⟨ua,ub,uc,hV⟩:=rtE_tri UV;rw[hV];rintro e u9 ⟨rfl,hb⟩;have HEu:=hid hV;have hb':=hb.alloc hb.size (.cells #[.bool ua,.string ub,.string uc] 53);have HXu:=hid (Blk.new u9 53 #[.bool ua,.string ub,.string uc]);have HXW:=hid (HN.out.2.1.below hb' HN.out.2.1.lt);have HBE:=hid (HBEL_trans HN.out.2.2.2.2 hb');clear hb hb' t0 t1 tl hV HN HU3;(go_upto_region 33 with fail);generalize u9.alloc (.cells #[.bool ua,.string ub,.string uc] 53)=w33 at*;generalize u9.heap.size=xu at*;have HCE:=hid (compareE_any (Wr,0) UV HWR.out HUR.out w33 (HTB.out _ HBE.out));obtain⟨K,hK⟩:∃K,K=cmpE (Wr,0) UV:=⟨_,rfl⟩;have HK:=hid hK;rw[HEw.out,HEu.out,<-hK]at HCE;clear hK;have u0:=HXW.out.at0;have u1:=HXW.out.at1;have u2:=HXW.out.at2;have ul:=HXW.out.lt;have v0:=HXu.out.at0;have v1:=HXu.out.at1;have v2:=HXu.out.at2;have vl:=HXu.out.lt;(go_wp2_with fail);refine HCE.out.mono ?_;rintro e w34 ⟨rfl,hb⟩;have HBF:=hid (HBEL_trans HBE.out hb);clear hb u0 u1 u2 ul v0 v1 v2 vl HCE HBE;obtain⟨Ur,ue⟩:=UV;obtain⟨ko,ke⟩:=K;dsimp only at*;by_cases hue:ue=0;rotate_left
           ·(have p:(ue !=0)=true:=by simpa using hue);(go_wp2_with fail);go_ret;exact⟨rfl,HBF.out⟩
           subst hue;by_cases hke:ke=0;rotate_left
           ·(have p:(ke !=0)=true:=by simpa using hke);(go_wp2_with fail);go_ret;exact⟨rfl,HBF.out⟩
           subst hke;by_cases hcl:c2<c1
           ·(go_wp2_with fail);go_ret;exact⟨rfl,HBF.out⟩
           ·have hko:ko≤0:=by
             have e:(ko,(0:Int))=cmpR Wr Ur:=HK.out.trans (if_pos ⟨rfl,rfl⟩);have h:=HMO.out (by omega) (by first|exact rfl|trivial) (by first|exact rfl|trivial) (by rw[<-e]);rw[<-e]at h;exact h
            (go_wp2_with fail);go_ret;first|exact⟨rfl,HBF.out⟩|exact⟨(show Ending.returned (Value.bool (decide (ko≤0)))=_ from by rw[decide_eq_true hko]),HBF.out⟩
  ·(have hck':(CK !=0)=true:=by simpa using hck);(go_wp2_with fail);go_ret;exact⟨rfl,H3.out.2⟩
end
end Go.Proofs.YtimmfbnjndndlaaGreatDoor
