/- Texts QW QX QY RA. -/
import Derived.Test.YtimmfbnjndndlaaGreatDoorM41
import Derived.Test.YtimmfbnjndndlaaGreatDoorM40
set_option linter.all false
namespace Go.Proofs.YtimmfbnjndndlaaGreatDoor
open Go.RowKit
set_option maxHeartbeats 8000000
set_option maxRecDepth 100000
section
open Go.Shelf
theorem firstE_drop{t:TarD}:∀{l:List ProdD}{k:Nat},(∀p∈l.take k,(classT t p.cas).2=0)->firstE t l=firstE t (l.drop k)
 | _,0,_=>rfl
 |[],k+1,_=>rfl
 |p::r,k+1,h=>by
  have h0:=h p (by simp);rw[List.drop_succ_cons,<-firstE_drop (l:=r) (k:=k) (λq hq=>h q (by simp[hq]))];rw[firstE,if_neg (by simpa using h0)]
theorem firstE_at{t:TarD}{l:List ProdD}{k:Nat}(hk:k<l.length)(h:∀p∈l.take k,(classT t p.cas).2=0)(hne:(classT t l[k].cas).2≠0):firstE t l=(classT t l[k].cas).2:=by
 rw[firstE_drop h,List.drop_eq_getElem_cons hk,firstE,if_pos hne]
theorem take_step{α:Type}{l:List α}{k:Nat}{P:α->Prop}(hk:k<l.length)(h:∀p∈l.take k,P p)(hp:P l[k]):∀p∈l.take (k+1),P p:=by
 intro p hp';rw[take_succ_get hk]at hp';rcases List.mem_append.1 hp' with h1|h1
 ·exact h p h1
 ·rw[List.mem_singleton.1 h1];exact hp
theorem pcheck_any(Z:Zone)(vd vl v:Value)(t:TarD)(l:List ProdD)(w:World)(ht:TarR Z w vd vl t)(h:Prods Z w v l)(hz:∀b,Z b->b<w.heap.size)(hf:t.fine)(htab:TabB w.heap.size w):
  Calls Tryz.prog 6 #[.agg #[vd,vl],v] w λe w'=>e= .returned (.int .i64 (checkP t l))∧Below w.heap.size w w':=by
 obtain⟨A,cap,rfl,hll,hs⟩:=h.form;have HV:=hid (λW(hW:Below w.heap.size w W)=>tvalid_any Z vd vl t W (ht.keep (Keeps.of_below hW)) (λb hb=>Nat.lt_of_lt_of_le (hz b hb) hW.size) hf);have HLG:=hid (λW(hW:Below w.heap.size w W)=>plarge_any Z _ l W (h.keep (Keeps.of_below hW)));have HOR:=hid (λW(hW:Below w.heap.size w W)=>order_any Z _ l W (h.keep (Keeps.of_below hW)) (λb hb=>Nat.lt_of_lt_of_le (hz b hb) hW.size));have HFT:=hid (λW(hW:Below w.heap.size w W) vc c(hc:Ints Z w vc c)=>factFits_any Z vd vc t.dom c W (ht.d.keep (Keeps.of_below hW)) (hc.keep (Keeps.of_below hW)));have HCL:=hid (λW(hW:Below w.heap.size w W) vc c(hc:Ints Z w vc c)=>classify_any Z Z vd vl vc t c W (ht.keep (Keeps.of_below hW)) (hc.keep (Keeps.of_below hW)) (λb hb=>Nat.lt_of_lt_of_le (hz b hb) hW.size) (λb hb=>Nat.lt_of_lt_of_le (hz b hb) hW.size) hf);have HOD:=hid (λW(hW:Below w.heap.size w W) p cs(hp:ProdR Z w cs p)=>odd_any Z p cs W (hp.keep (Keeps.of_below hW)));have HTB:=hid htab;have HS:=hid (And.intro hs hz);obtain⟨A2,cap2,hvl⟩:∃A2 cap2,vl= .slice A2 t.lines.length cap2:=by obtain⟨⟨A2,cap2,e,_⟩⟩:=ht.l;exact⟨A2,cap2,e⟩
 obtain⟨A3,cap3,hvd⟩:∃A3 cap3,vd= .slice A3 t.dom.length cap3:=by obtain⟨⟨A3,cap3,e,_⟩,_⟩:=ht.d;exact⟨A3,cap3,e⟩
 subst hvl hvd;obtain⟨RR,hRR⟩:∃RR,RR=checkP t l:=⟨_,rfl⟩;rw[<-hRR];unfold checkP at hRR;have HR:=hid hRR;clear ht h hs hz htab hRR;generalize validT t=b1 at*;obtain⟨b2,hb2⟩:∃b,b=largeP l:=⟨_,rfl⟩;rw[<-hb2]at HLG HR;have bk:=Blk.new w 27 #[.slice A3 t.dom.length cap3,.slice A2 t.lines.length cap2];have hB0:=below1 w (.cells #[.slice A3 t.dom.length cap3,.slice A2 t.lines.length cap2] 27);clear hb2;generalize hdl:t.dom.length=dl at*;generalize hln:t.lines.length=nl at*;clear hdl hln;go_enter Tryz.func6,Tryz.ntmps6
 go_wp2_with fail
 generalize w.alloc (.cells #[.slice A3 dl cap3,.slice A2 nl cap2] 27)=w0 at*;refine(HV.out _ hB0).mono ?_;rintro e w1 ⟨rfl,hb1⟩;replace bk:=bk.below hb1 bk.lt;have hB1:=HBEL_trans hB0 hb1;clear hb1 hB0 HV;cases b1
 ·have HX:=hid (HR.out.trans (if_pos rfl));go_wp2_with fail
  go_ret;exact⟨by rw[HX.out];rfl,hB1⟩
 ·have HR1:=hid (HR.out.trans (if_neg (by decide)));clear HR;go_wp2_with fail
  refine(HLG.out _ hB1).mono ?_;rintro e w2 ⟨rfl,hb2⟩;replace bk:=bk.below hb2 bk.lt;have hB2:=HBEL_trans hB1 hb2;clear hb2 hB1 HLG;cases b2
  ·have HR2:=hid (HR1.out.trans (if_neg (by decide)));clear HR1;have HBB:=hid (And.intro bk hB2);clear bk hB2;go_wp2;go_loopw[22] (λiv wr=>∃k:Nat,k≤l.length∧iv= .int .i64 k∧Blk wr w.heap.size 27 #[.slice A3 dl cap3,.slice A2 nl cap2]∧Below w.heap.size w wr∧Hid (∀p∈l.take k,badP t p=false)) (λiv _=>l.length-(intOf iv).toNat);case atStart=>exact⟨0,Nat.zero_le _,rfl,HBB.out.1,HBB.out.2,hid (by simp)⟩
   case round=>
    obtain⟨k,hk,rfl,bk,hbel,hgd⟩:=hrel;clear HBB;by_cases hlt:k<l.length
    ·obtain⟨b,off,cs,rfl,hzb,hc,hR⟩:=HS.out.1.at_ hlt;have hbs:=HS.out.2 b hzb;obtain⟨CA,ccap,PA,pcap,rfl,hcas,hcomp,hfit⟩:=hR.form2;have hcb:=cells_below hbel hbs hc;have c0:wr.cell? ⟨b,off+k*5,none⟩=_:=hcb 0 _ rfl;have c1:wr.cell? ⟨b,off+k*5+1,none⟩=_:=hcb 1 _ rfl;have c2:wr.cell? ⟨b,off+k*5+2,none⟩=_:=hcb 2 _ rfl;have c3:wr.cell? ⟨b,off+k*5+3,none⟩=_:=hcb 3 _ rfl;have c4:wr.cell? ⟨b,off+k*5+4,none⟩=_:=hcb 4 _ rfl;have HBAD:=hid (λ(h:badP t l[k]=true)=>HR2.out.trans (if_pos (List.any_eq_true.2 ⟨_,List.getElem_mem hlt,h⟩)));have HNX:=hid (λ(h:badP t l[k]=false)=>take_step (P:=λp=>badP t p=false) hlt hgd.out h);have HTX:=hid (λW(hW:Below w.heap.size w W)=>mtext_any l[k].cur l[k].units hfit.2.1 hfit.2.2 W ((HTB.out.on hW).mono hW.size));have HODK:=hid (λW(hW:Below w.heap.size w W)=>HOD.out W hW l[k] _ hR);have HFK:=hid (λW(hW:Below w.heap.size w W)=>HFT.out W hW _ l[k].cas hcas);have HBP:=hid (show badP t l[k]=(oddP l[k]|| !amtOk l[k].cur l[k].units ||decide (l[k].units <0)|| !fits t.dom l[k].cas) from rfl);(have hk1:((k:Nat):Int)<(l.length:Int):=by omega);(have hk0:(0:Int)≤((k:Nat):Int):=by omega);clear hc hcb hgd hR hcas hcomp hfit;generalize l[k]=p at*;have hX:=Blk.new wr 42 #[.string p.id,.slice CA p.cas.length ccap,.string p.cur,.int .i64 p.units,.slice PA p.parts.length pcap];have bk1:=bk.alloc (.cells #[.string p.id,.slice CA p.cas.length ccap,.string p.cur,.int .i64 p.units,.slice PA p.parts.length pcap] 42);have hB1:Below w.heap.size w (wr.alloc (.cells #[.string p.id,.slice CA p.cas.length ccap,.string p.cur,.int .i64 p.units,.slice PA p.parts.length pcap] 42)):=hbel.alloc hbel.size _;obtain⟨XB,hXB⟩:∃XB,XB=wr.heap.size:=⟨_,rfl⟩;rw[<-hXB]at hX;(go_upto_region 8 with fail);rw[<-hXB];clear hXB bk hbel c0 c1 c2 c3 c4;generalize wr.alloc (.cells #[.string p.id,.slice CA p.cas.length ccap,.string p.cur,.int .i64 p.units,.slice PA p.parts.length pcap] 42)=w4 at*;obtain⟨ab,hab⟩:∃b,b=amtOk p.cur p.units:=⟨_,rfl⟩;rw[<-hab]at HTX HBP;obtain⟨ob,hob⟩:∃b,b=oddP p:=⟨_,rfl⟩;rw[<-hob]at HODK HBP;obtain⟨fb,hfb⟩:∃b,b=fits t.dom p.cas:=⟨_,rfl⟩;rw[<-hfb]at HFK HBP;obtain⟨nb,hnb⟩:∃b,decide (p.units<0)=b:=⟨_,rfl⟩;rw[hnb]at HBP;clear hab hob hfb;have x2:=hX.at2;have x3:=hX.at3;have xl:=hX.lt;have HXX:=hid (And.intro hX (And.intro bk1 hB1));clear hX bk1 hB1;(go_wp2_with fail);refine(HTX.out _ HXX.out.2.2).mono ?_;rintro e w5 ⟨tx,rfl,hb5⟩;have hX:=HXX.out.1.below hb5 HXX.out.1.lt;have bk5:=HXX.out.2.1.below hb5 HXX.out.2.1.lt;have hB5:=HBEL_trans HXX.out.2.2 hb5;clear hb5 HXX x2 x3 xl HTX;have x0:=hX.at0;have x1:=hX.at1;have x2:=hX.at2;have x3:=hX.at3;have x4:=hX.at4;have xl:=hX.lt;have HXX:=hid (And.intro hX (And.intro bk5 hB5));clear hX bk5 hB5;(obtain⟨ee,hee⟩:∃ee:Int,ee=if ab=true then 0 else 1:=⟨_,rfl⟩);rw[<-hee];have HEE:=hid hee;clear hee;(go_wp2_with fail);refine(HODK.out _ HXX.out.2.2).mono ?_;rintro e w6 ⟨rfl,hb6⟩;have hX:=HXX.out.1.below hb6 HXX.out.1.lt;have bk6:=HXX.out.2.1.below hb6 HXX.out.2.1.lt;have hB6:=HBEL_trans HXX.out.2.2 hb6;clear hb6 HXX x0 x1 x2 x3 x4 xl HODK;cases ob
     ·cases ab
      ·obtain rfl:ee=1:=HEE.out;have HX:=hid (HBAD.out (by rw[HBP.out];rfl));(go_wp2_with fail);go_ret;exact⟨by rw[HX.out];rfl,hB6⟩
      ·obtain rfl:ee=0:=HEE.out;have x1:=hX.at1;have x3:=hX.at3;have xl:=hX.lt;have t0:=bk6.at0;have tl:=bk6.lt;have HBF:=hid (And.intro bk6 hB6);clear hX;cases nb
       ·clear bk6 hB6;(go_wp2_with fail);refine(HFK.out _ HBF.out.2).mono ?_;rintro e w7 ⟨rfl,hb7⟩;have HB7:=hid (And.intro (HBF.out.1.below hb7 HBF.out.1.lt) (HBEL_trans HBF.out.2 hb7));clear hb7 HBF x1 x3 xl t0 tl;cases fb
        ·have HX:=hid (HBAD.out (by rw[HBP.out];rfl));(go_wp2_with fail);go_ret;exact⟨by rw[HX.out];rfl,HB7.out.2⟩
        ·(go_wp2_with fail);go_roundw;(case rel=>exact⟨k+1,by omega,by go_num,HB7.out.1,HB7.out.2,hid (HNX.out (by rw[HBP.out];rfl))⟩);case measure=>simp[intOf];omega
       ·have HX:=hid (HBAD.out (by rw[HBP.out];rfl));(go_wp2_with fail);go_ret;exact⟨by rw[HX.out];rfl,hB6⟩
     ·have HX:=hid (HBAD.out (by rw[HBP.out];rfl));(go_wp2_with fail);go_ret;exact⟨by rw[HX.out];rfl,hB6⟩
    ·(obtain rfl:k=l.length:=by omega);rw[List.take_length]at hgd;have HR3:=hid (HR2.out.trans (if_neg (by rw[show l.any (badP t)=false from List.any_eq_false.2 λp hp=>by rw[hgd.out p hp];decide];decide)));have HBB:=hid (And.intro bk hbel);clear bk hbel hgd HR2;(go_wp2_with fail);refine(HOR.out _ HBB.out.2).mono ?_;unfold OrdPost;rintro e w4 ⟨v4,rfl,how4,hb4⟩;obtain⟨A4,cap4,rfl,-⟩:=Row.of_own how4 (by decide);have HB4:=hid (And.intro (HBB.out.1.below hb4 HBB.out.1.lt) (HBEL_trans HBB.out.2 hb4));clear HBB hb4 how4 HOR;generalize hoe:(orderP l).2=oe at*;generalize (orderP l).1.length =on at*;clear hoe;by_cases hoe:oe=0
     ·subst hoe;have HR4:=hid (HR3.out.trans (if_neg (by decide)));clear HR3;go_wp2;go_loopw[63] (λiv wr=>∃k:Nat,k≤l.length∧iv= .int .i64 k∧Blk wr w.heap.size 27 #[.slice A3 dl cap3,.slice A2 nl cap2]∧Below w.heap.size w wr∧Hid (∀p∈l.take k,(classT t p.cas).2=0)) (λiv _=>l.length-(intOf iv).toNat);case atStart=>exact⟨0,Nat.zero_le _,rfl,HB4.out.1,HB4.out.2,hid (by simp)⟩
      case round=>
       obtain⟨k,hk,rfl,bk,hbel,hgd⟩:=hrel;clear HB4;by_cases hlt:k<l.length
       ·obtain⟨b,off,cs,rfl,hzb,hc,hR⟩:=HS.out.1.at_ hlt;have hbs:=HS.out.2 b hzb;obtain⟨CA,ccap,PA,pcap,rfl,hcas,hcomp,hfit⟩:=hR.form2;have hcb:=cells_below hbel hbs hc;have c0:wr.cell? ⟨b,off+k*5,none⟩=_:=hcb 0 _ rfl;have c1:wr.cell? ⟨b,off+k*5+1,none⟩=_:=hcb 1 _ rfl;have c2:wr.cell? ⟨b,off+k*5+2,none⟩=_:=hcb 2 _ rfl;have c3:wr.cell? ⟨b,off+k*5+3,none⟩=_:=hcb 3 _ rfl;have c4:wr.cell? ⟨b,off+k*5+4,none⟩=_:=hcb 4 _ rfl;have HBAD:=hid (λ(h:(classT t l[k].cas).2≠0)=>HR4.out.trans (firstE_at hlt hgd.out h));have HNX:=hid (λ(h:(classT t l[k].cas).2=0)=>take_step (P:=λp=>(classT t p.cas).2=0) hlt hgd.out h);have HCK:=hid (λW(hW:Below w.heap.size w W)=>HCL.out W hW _ l[k].cas hcas);(have hk1:((k:Nat):Int)<(l.length:Int):=by omega);(have hk0:(0:Int)≤((k:Nat):Int):=by omega);clear hc hcb hgd hR hcas hcomp hfit;generalize l[k]=p at*;have hX:=Blk.new wr 42 #[.string p.id,.slice CA p.cas.length ccap,.string p.cur,.int .i64 p.units,.slice PA p.parts.length pcap];have bk1:=bk.alloc (.cells #[.string p.id,.slice CA p.cas.length ccap,.string p.cur,.int .i64 p.units,.slice PA p.parts.length pcap] 42);have hB1:Below w.heap.size w (wr.alloc (.cells #[.string p.id,.slice CA p.cas.length ccap,.string p.cur,.int .i64 p.units,.slice PA p.parts.length pcap] 42)):=hbel.alloc hbel.size _;obtain⟨XB,hXB⟩:∃XB,XB=wr.heap.size:=⟨_,rfl⟩;rw[<-hXB]at hX;(go_upto_region 18 with fail);rw[<-hXB];clear hXB bk hbel c0 c1 c2 c3 c4;generalize wr.alloc (.cells #[.string p.id,.slice CA p.cas.length ccap,.string p.cur,.int .i64 p.units,.slice PA p.parts.length pcap] 42)=w5 at*;have x1:=hX.at1;have xl:=hX.lt;have t0:=bk1.at0;have t1:=bk1.at1;have tl:=bk1.lt;have HBF:=hid (And.intro bk1 hB1);clear hX bk1 hB1;obtain⟨ci,hci⟩:∃x,x=(classT t p.cas).1:=⟨_,rfl⟩;obtain⟨ce,hce⟩:∃x,x=(classT t p.cas).2:=⟨_,rfl⟩;rw[<-hci,<-hce]at HCK;rw[<-hce]at HBAD HNX;clear hci hce;(go_wp2_with fail);refine(HCK.out _ HBF.out.2).mono ?_;rintro e w6 ⟨rfl,hb6⟩;have HB7:=hid (And.intro (HBF.out.1.below hb6 HBF.out.1.lt) (HBEL_trans HBF.out.2 hb6));clear hb6 HBF x1 xl t0 t1 tl HCK;by_cases hce:ce=0
        ·subst hce;go_wp2;go_roundw;(case rel=>exact⟨k+1,by omega,by go_num,HB7.out.1,HB7.out.2,hid (HNX.out (by first|exact rfl|trivial))⟩);case measure=>simp[intOf];omega
        ·have HX:=hid (HBAD.out hce);(have en:(ce !=0)=true:=by simpa using hce);clear hce HBAD HNX;go_wp2;go_ret;exact⟨by rw[HX.out];rfl,HB7.out.2⟩
       ·(obtain rfl:k=l.length:=by omega);rw[List.take_length]at hgd;have HX:=hid (HR4.out.trans (show firstE t l=0 from by rw[firstE_drop (k:=l.length) (by rw[List.take_length];exact hgd.out),List.drop_length];rfl));have HF:=hid hbel;clear bk hbel hgd;go_wp2;go_ret;exact⟨by rw[HX.out];rfl,HF.out⟩
     ·have HX:=hid (HR3.out.trans (if_pos hoe));(have en:(oe !=0)=true:=by simpa using hoe);clear hoe HR3;go_wp2;go_ret;exact⟨by rw[HX.out];rfl,HB4.out.2⟩
  ·have HX:=hid (HR1.out.trans (if_pos rfl));(go_wp2_with fail);go_ret;exact⟨by rw[HX.out];rfl,hB2⟩
end
section
open Go.Shelf
def resV(x:Rt × Int):Value:=if x.2=0 then .agg #[.bool x.1.neg,.string (dstr x.1.num),.string (dstr x.1.den),.int .i64 x.2]else .agg #[.bool false,.string ⟨#[]⟩,.string ⟨#[]⟩,.int .i64 x.2]
def ResOk(x:Rt × Int):Prop:=x.2=0->RtOk x.1
theorem rtE_ok{x:Rt × Int}(h:x.2=0):rtE x=rtV x.1:=by obtain⟨r,e⟩:=x;exact if_pos h
theorem rtE_err{r:Rt}{e:Int}(h:e≠0):rtE (r,e)= .agg #[.bool false,.string ⟨#[]⟩,.string ⟨#[]⟩]:=if_neg h
theorem resV_form(x:Rt × Int):∃a b c,resV x= .agg #[.bool a,.string b,.string c,.int .i64 x.2]∧rtE x= .agg #[.bool a,.string b,.string c]:=by
 obtain⟨r,e⟩:=x;unfold resV;by_cases h:e=0
 ·exact⟨_,_,_,if_pos h,if_pos h⟩
 ·exact⟨_,_,_,if_neg h,if_neg h⟩
theorem resV_of{R:Rt × Int}{a:Bool}{b c:ByteArray}(h:rtE R= .agg #[.bool a,.string b,.string c]):resV R= .agg #[.bool a,.string b,.string c,.int .i64 R.2]:=by
 obtain⟨a',b',c',h1,h2⟩:=resV_form R;rw[h1];rw[h2]at h;injection h with h;simp at h;obtain⟨rfl,rfl,rfl⟩:=h;rfl
theorem plusR_res{x y:Rt × Int}{n:Int}(hx:ResOk x)(hy:ResOk y)(hn:n.natAbs<10^13):ResOk (plusR x n y):=by
 unfold plusR;split
 ·exact hx
 rename_i h1;split
 ·exact hy
 rename_i h2;have h1:x.2=0:=by simpa using h1
 have h2:y.2=0:=by simpa using h2
 have ho:=(ofR_ok' (n:=n) (d:=1) hn (by decide) (by decide)).1;split
 ·rename_i h3;intro h;exact absurd h h3
 ·rename_i h3;exact addR_rtok (hx h1) (mulR_rtok ho (hy h2) (by simpa using h3))
structure PlB (w W:World) (a:Bool) (b c:ByteArray) (e:Int) (a':Bool) (b' c':ByteArray) (e':Int):Prop where
 x:Blk W w.heap.size 80 #[.bool a,.string b,.string c,.int .i64 e]
 y:Blk W (w.heap.size+1) 80 #[.bool a',.string b',.string c',.int .i64 e']
 r:Blk W (w.heap.size+1+1) 80 #[.bool false,.string ⟨#[]⟩,.string ⟨#[]⟩,.int .i64 0]
 be:Below w.heap.size w W
section
variable {w W W':World} {a a':Bool} {b c b' c':ByteArray} {e e':Int}
theorem PlB.below(h:PlB w W a b c e a' b' c' e')(hb:Below W.heap.size W W'):PlB w W' a b c e a' b' c' e':=
 ⟨h.x.below hb h.x.lt,h.y.below hb h.y.lt,h.r.below hb h.r.lt,HBEL_trans h.be hb⟩
theorem PlB.new(w:World)(a:Bool)(b c:ByteArray)(e:Int)(a':Bool)(b' c':ByteArray)(e':Int):PlB w (((w.alloc (.cells #[.bool a,.string b,.string c,.int .i64 e] 80)).alloc (.cells #[.bool a',.string b',.string c',.int .i64 e'] 80)).alloc (.cells #[.bool false,.string ⟨#[]⟩,.string ⟨#[]⟩,.int .i64 0] 80)) a b c e a' b' c' e':=by
 have h1:=Blk.new (w.alloc (.cells #[.bool a,.string b,.string c,.int .i64 e] 80)) 80 #[.bool a',.string b',.string c',.int .i64 e'];rw[World.size_alloc]at h1;have h2:=Blk.new ((w.alloc (.cells #[.bool a,.string b,.string c,.int .i64 e] 80)).alloc (.cells #[.bool a',.string b',.string c',.int .i64 e'] 80)) 80 #[.bool false,.string ⟨#[]⟩,.string ⟨#[]⟩,.int .i64 0];rw[World.size_alloc,World.size_alloc]at h2;exact⟨((Blk.new w _ _).alloc _).alloc _,h1.alloc _,h2,((below1 w _).alloc (by simp) _).alloc (by simp;omega) _⟩
theorem PlB.set{p:Addr}(h:PlB w W a b c e a' b' c' e')(hp:w.heap.size+1+1<p.block)(v:Value):PlB w (W.setCell p v) a b c e a' b' c' e':=
 ⟨h.x.far (by omega) v,h.y.far (by omega) v,h.r.far (by omega) v,h.be.setCell (by omega) v⟩
theorem PlB.out(h:PlB w W a b c e a' b' c' e')(t:Bool)(u v:ByteArray)(s:Int):
  Blk ((((W.setCell ⟨w.heap.size+1+1,0,none⟩ (.bool t)).setCell ⟨w.heap.size+1+1,1,none⟩ (.string u)).setCell ⟨w.heap.size+1+1,2,none⟩ (.string v)).setCell ⟨w.heap.size+1+1,3,none⟩ (.int .i64 s)) (w.heap.size+1+1) 80 #[.bool t,.string u,.string v,.int .i64 s]∧
  Below w.heap.size w ((((W.setCell ⟨w.heap.size+1+1,0,none⟩ (.bool t)).setCell ⟨w.heap.size+1+1,1,none⟩ (.string u)).setCell ⟨w.heap.size+1+1,2,none⟩ (.string v)).setCell ⟨w.heap.size+1+1,3,none⟩ (.int .i64 s)):=by
 have hl:w.heap.size≤w.heap.size+1+1:=by omega
 exact⟨(((h.r.set_ 0 _).set_ 1 _).set_ 2 _).set_ 3 _,(((h.be.setCell hl _).setCell hl _).setCell hl _).setCell hl _⟩
end
theorem plus_any(x y:Rt × Int)(n:Int)(hx:ResOk x)(hy:ResOk y)(hn:n.natAbs<10^13)(w:World)(htab:TabB w.heap.size w):
  Calls Tryz.prog 64 #[resV x,.int .i64 n,resV y] w λe w'=>e= .returned (resV (plusR x n y))∧Below w.heap.size w w':=by
 have e13:(10:Nat)^13=10000000000000:=by decide
 have HOF:=hid (λW(hW:Below w.heap.size w W)=>of_any n 1 (by unfold I64;omega) (by unfold I64;omega) (by decide) W ((htab.on hW).mono hW.size));have HML:=hid (λW(hW:Below w.heap.size w W)(h:y.2=0)=>rmul_any (ofR n 1) y.1 (ofR_ok' hn (by decide) (by decide)).1 (hy h) W ((htab.on hW).mono hW.size));have HAD:=hid (λW(hW:Below w.heap.size w W)(h1:x.2=0)(h2:y.2=0)(h3:(mulR (ofR n 1) y.1).2=0)=>radd_any x.1 (mulR (ofR n 1) y.1).1 (hx h1) (mulR_rtok (ofR_ok' hn (by decide) (by decide)).1 (hy h2) h3) W ((htab.on hW).mono hW.size));obtain⟨RR,hRR⟩:∃RR,RR=plusR x n y:=⟨_,rfl⟩;rw[<-hRR];unfold plusR at hRR;have HR:=hid hRR;obtain⟨a,b,c,hxv,hxe⟩:=resV_form x;obtain⟨a',b',c',hyv,hye⟩:=resV_form y;rw[hxv,hyv];have HXV:=hid (λ(h:x.2=0)=>(rtE_ok h).symm.trans hxe);have HYV:=hid (λ(h:y.2=0)=>(rtE_ok h).symm.trans hye);have HXR:=hid hxv;have HYR:=hid hyv;clear hxv hxe hyv hye hRR hx hy hn htab e13;obtain⟨xr,xe⟩:=x;obtain⟨yr,ye⟩:=y;dsimp only at*;generalize mulR (ofR n 1) yr=M at*;go_enter Tryz.func64,Tryz.ntmps64
 go_upto_region 1 with fail
 have h0:=PlB.new w a b c xe a' b' c' ye;generalize ((w.alloc (.cells #[.bool a,.string b,.string c,.int .i64 xe] 80)).alloc (.cells #[.bool a',.string b',.string c',.int .i64 ye] 80)).alloc (.cells #[.bool false,.string ⟨#[]⟩,.string ⟨#[]⟩,.int .i64 0] 80)=w0 at*;have x3:=h0.x.at3;by_cases hxe:xe=0
 ·subst hxe;have HR1:=hid (HR.out.trans (if_neg (by decide)));have HXV1:=hid (HXV.out rfl);clear HR HXV HXR;have y3:=h0.y.at3;by_cases hye:ye=0
  ·subst hye;have HR2:=hid (HR1.out.trans (if_neg (by decide)));have HYV1:=hid (HYV.out rfl);clear HR1 HYV HYR;have H0:=hid h0;clear h0;(go_wp2_with fail);refine(HOF.out _ H0.out.be).mono ?_;rintro e w1 ⟨rfl,hb1⟩;have h0:=H0.out.below hb1;clear H0 hb1 x3 y3 HOF;have HMK:=hid (λW(hW:Below w.heap.size w W)=>HML.out W hW (by first|exact rfl|trivial));clear HML;unfold rtV at HMK⊢;rw[show Value.agg #[.bool yr.neg,.string (dstr yr.num),.string (dstr yr.den)]= .agg #[.bool a',.string b',.string c'] from HYV1.out]at HMK;have h1:=h0.below (below1 w1 (.cells #[.bool (ofR n 1).neg,.string (dstr (ofR n 1).num),.string (dstr (ofR n 1).den)] 53));have bo:=Blk.new w1 53 #[.bool (ofR n 1).neg,.string (dstr (ofR n 1).num),.string (dstr (ofR n 1).den)];generalize (ofR n 1).neg =o1 at*;generalize dstr (ofR n 1).num =o2 at*;generalize dstr (ofR n 1).den =o3 at*;obtain⟨OB,hOB⟩:∃OB,OB=w1.heap.size:=⟨_,rfl⟩;rw[<-hOB]at bo;have y0:=h1.y.at0;have y1:=h1.y.at1;have y2:=h1.y.at2;have yl:=h1.y.lt;have b0:=bo.at0;have b1:=bo.at1;have b2:=bo.at2;have bl:=bo.lt;have H1:=hid h1;clear h0 h1 bo;(go_upto_region 6 with fail);rw[<-hOB];clear hOB;generalize w1.alloc (.cells #[.bool o1,.string o2,.string o3] 53)=w2 at*;(go_wp2_with fail);refine(HMK.out _ H1.out.be).mono ?_;rintro e w3 ⟨rfl,hb3⟩;have h3:=H1.out.below hb3;clear H1 HMK y0 y1 y2 yl b0 b1 b2 bl hb3;obtain⟨m1,m2,m3,hm⟩:=rtE_tri M;rw[hm];have HM:=hid hm;have h4:=h3.below (below1 w3 (.cells #[.bool m1,.string m2,.string m3] 53));have bm:=Blk.new w3 53 #[.bool m1,.string m2,.string m3];obtain⟨MB,hMB⟩:∃MB,MB=w3.heap.size:=⟨_,rfl⟩;rw[<-hMB]at bm;clear hm;(go_upto_region 7 with fail);rw[<-hMB];clear hMB h3;generalize w3.alloc (.cells #[.bool m1,.string m2,.string m3] 53)=w4 at*;obtain⟨Mr,Me⟩:=M;dsimp only at*;by_cases hme:Me=0
   ·subst hme;have HR3:=hid (HR2.out.trans (if_neg (by decide)));clear HR2;have HAK:=hid (λW(hW:Below w.heap.size w W)=>HAD.out W hW (by first|exact rfl|trivial) (by first|exact rfl|trivial) (by first|exact rfl|trivial));clear HAD;have hmv:rtV Mr= .agg #[.bool m1,.string m2,.string m3]:=(rtE_ok (x:=(Mr,0)) rfl).symm.trans HM.out;rw[hmv]at HAK;unfold rtV at HAK;rw[show Value.agg #[.bool xr.neg,.string (dstr xr.num),.string (dstr xr.den)]= .agg #[.bool a,.string b,.string c] from HXV1.out]at HAK;clear hmv HM;have x0:=h4.x.at0;have x1:=h4.x.at1;have x2:=h4.x.at2;have xl:=h4.x.lt;have b0:=bm.at0;have b1:=bm.at1;have b2:=bm.at2;have bl:=bm.lt;have H4:=hid h4;clear h4 bm;(go_wp2_with fail);refine(HAK.out _ H4.out.be).mono ?_;rintro e w5 ⟨rfl,hb5⟩;have h5:=H4.out.below hb5;generalize addR xr Mr=S at*;clear H4 HAK x0 x1 x2 xl b0 b1 b2 bl hb5;obtain⟨s1,s2,s3,hs⟩:=rtE_tri S;rw[hs];have HS:=hid (resV_of hs);have h6:=h5.below (below1 w5 (.cells #[.bool s1,.string s2,.string s3] 53));have bs:=Blk.new w5 53 #[.bool s1,.string s2,.string s3];obtain⟨SB,hSB⟩:∃SB,SB=w5.heap.size:=⟨_,rfl⟩;rw[<-hSB]at bs;clear hs;(go_upto_region 10 with fail);rw[<-hSB];clear hSB h5;generalize w5.alloc (.cells #[.bool s1,.string s2,.string s3] 53)=w6 at*;have b0:=bs.at0;have b1:=bs.at1;have b2:=bs.at2;have bl:=bs.lt;have r0:=h6.r.at0;have r1:=h6.r.at1;have r2:=h6.r.at2;have r3:=h6.r.at3;have g0:=h6.r.frozen 0;have g1:=h6.r.frozen 1;have g2:=h6.r.frozen 2;have g3:=h6.r.frozen 3;have gl:=h6.r.lt;have H6:=hid h6;clear h6 bs;(go_wp2_with fail);have HO:=H6.out.out s1 s2 s3 S.2;have r0:=HO.1.at0;have r1:=HO.1.at1;have r2:=HO.1.at2;have r3:=HO.1.at3;exact bodyPost_ret (v:= .agg #[.bool s1,.string s2,.string s3,.int .i64 S.2]) (by simp[results,Tryz.results64,go_sem,r0,r1,r2,r3]) rfl ⟨by rw[HR3.out,HS.out],HO.2⟩
   ·have HX:=hid (HR2.out.trans (if_pos hme));clear HR2 HAD HM;have HXE:=hid (show resV (rt0,Me)= .agg #[.bool false,.string ⟨#[]⟩,.string ⟨#[]⟩,.int .i64 Me] from if_neg hme);have r0:=h4.r.at0;have r1:=h4.r.at1;have r2:=h4.r.at2;have r3:=h4.r.at3;have g0:=h4.r.frozen 0;have g1:=h4.r.frozen 1;have g2:=h4.r.frozen 2;have g3:=h4.r.frozen 3;have gl:=h4.r.lt;have H4:=hid h4;clear h4 bm;(have hme:(Me==0)=false:=by simp[hme]);(go_wp2_with fail);have HO:=H4.out.out false ⟨#[]⟩ ⟨#[]⟩ Me;have r0:=HO.1.at0;have r1:=HO.1.at1;have r2:=HO.1.at2;have r3:=HO.1.at3;exact bodyPost_ret (v:= .agg #[.bool false,.string ⟨#[]⟩,.string ⟨#[]⟩,.int .i64 Me]) (by simp[results,Tryz.results64,go_sem,r0,r1,r2,r3]) rfl ⟨by rw[HX.out,HXE.out],HO.2⟩
  ·have HX:=hid (HR1.out.trans (if_pos hye));clear HR1 HYV HML HAD HOF;have y0:=h0.y.at0;have y1:=h0.y.at1;have y2:=h0.y.at2;have r0:=h0.r.at0;have r1:=h0.r.at1;have r2:=h0.r.at2;have r3:=h0.r.at3;have g0:=h0.r.frozen 0;have g1:=h0.r.frozen 1;have g2:=h0.r.frozen 2;have g3:=h0.r.frozen 3;have gl:=h0.r.lt;have H0:=hid h0;clear h0;(have hye:(ye==0)=false:=by simp[hye]);(go_wp2_with fail);have HO:=H0.out.out a' b' c' ye;have r0:=HO.1.at0;have r1:=HO.1.at1;have r2:=HO.1.at2;have r3:=HO.1.at3;exact bodyPost_ret (v:= .agg #[.bool a',.string b',.string c',.int .i64 ye]) (by simp[results,Tryz.results64,go_sem,r0,r1,r2,r3]) rfl ⟨by rw[HX.out,HYR.out],HO.2⟩
 ·have HX:=hid (HR.out.trans (if_pos hxe));clear HR HXV HYV HYR HML HAD HOF;have x0:=h0.x.at0;have x1:=h0.x.at1;have x2:=h0.x.at2;have r0:=h0.r.at0;have r1:=h0.r.at1;have r2:=h0.r.at2;have r3:=h0.r.at3;have g0:=h0.r.frozen 0;have g1:=h0.r.frozen 1;have g2:=h0.r.frozen 2;have g3:=h0.r.frozen 3;have gl:=h0.r.lt;have H0:=hid h0;clear h0;have hxe:(xe==0)=false:=by simp[hxe]
  go_wp2_with fail
  have HO:=H0.out.out a b c xe;have r0:=HO.1.at0;have r1:=HO.1.at1;have r2:=HO.1.at2;have r3:=HO.1.at3;exact bodyPost_ret (v:= .agg #[.bool a,.string b,.string c,.int .i64 xe]) (by simp[results,Tryz.results64,go_sem,r0,r1,r2,r3]) rfl ⟨by rw[HX.out,HXR.out],HO.2⟩
end
section
open Go.Shelf
def ProdKv(Z:Zone)(w:World)(kv:List (ByteArray × Value))(l:List ProdD):Prop:=
 ∀id,(l.find? (λp=>decide (p.id=id))=none->kvGet kv id=none)∧∀p,l.find? (λp=>decide (p.id=id))=some p->∃cs,kvGet kv id=some (.agg cs.toArray)∧ProdR Z w cs p
theorem ProdKv.add{Z:Zone}{w:World}{kv:List (ByteArray × Value)}{l:List ProdD}{k:Nat}(h:ProdKv Z w kv (l.take k))(hk:k<l.length)(hn:l[k].id ∉idsP (l.take k)){cs:List Value}(hc:ProdR Z w cs l[k]):
  ProdKv Z w (kvSet kv l[k].id (.agg cs.toArray)) (l.take (k+1)):=by
 intro id;obtain⟨h1,h2⟩:=h id;rw[take_succ_get hk,List.find?_append];by_cases hid:id=l[k].id
 ·subst hid
  have hno:(l.take k).find? (λp=>decide (p.id=l[k].id))=none:=by
   rw[List.find?_eq_none];intro p hp he;exact hn (List.mem_map.2 ⟨p,hp,of_decide_eq_true he⟩)
  rw[hno,kvGet_set_same];simp only[Option.none_or];rw[List.find?_singleton,if_pos (decide_eq_true rfl)];refine⟨(λh=>by cases h),λp hp=> ?_⟩;injection hp with hp;subst hp;exact⟨cs,rfl,hc⟩
 ·rw[kvGet_set_other hid]
  have e:[l[k]].find? (λp=>decide (p.id=id))=none:=by
   rw[List.find?_singleton,if_neg (by simp;exact λh=>hid h.symm)]
  rw[e,Option.or_none];exact⟨h1,h2⟩
theorem wp_mapStore{P:Program}{κ:Type}[DecidableEq κ]{enc:κ->Value}{t k e:TypeId}{w:World}{b:Nat}{kv:List (κ × Value)}{o:Oper}{a:Act}{K:Act->World->Prop}{Q:Exit->Act->World->Prop}(m x y:Operand)(hop:o.op=Op.mapUpdate t m x y)
  (KO:KeyOk P k enc)(ht:P.underlying t=some (.map k e))(hm:a.eval m= .map (some b))(h:MapIs enc w b kv)(key:κ)(hx:a.eval x=enc key)
  (hK:∀w1,MapIs enc w1 b (kvSet kv key (a.eval y))->Keeps (λc=>c≠b) w w1->w1.heap.size=w.heap.size->(∀a,w1.cell? a=w.cell? a)->(∀a,w1.frozen? a=w.frozen? a)->K (a.put o.dst undef) w1):Oper.wp P o a w K Q:=by
 obtain⟨w1,hrun,h1,h2,h3,h4,h5⟩:=h.store KO ht key (a.eval y);unfold Oper.wp;simp[execOp,hop,hm,hx,hrun,Result.andThen];exact hK w1 h1 h2 h3 h4 h5
theorem Tryz.zeroProd(w:World):(zeroValue 42).run Tryz.prog w= .ok (.agg #[.string ⟨#[]⟩,.slice none 0 0,.string ⟨#[]⟩,.int .i64 0,.slice none 0 0]) w:=by kernel_rfl
structure GdsR (Z:Zone) (w W:World) (B M:Nat) (vd vl vr:Value) (l:List ProdD) (base:ByteArray) (day:Int) (kv:List (ByteArray × Value)):Prop where
 b:Blk W B 114 #[vd,vl,.map (some M),vr,.string base,.int .i64 day]
 m:MapIs encS W M kv
 lo:w.heap.size≤M
 lt:M<B
 be:Below w.heap.size w W
theorem GdsR.below{Z:Zone}{w W W':World}{B M:Nat}{vd vl vr:Value}{l:List ProdD}{base:ByteArray}{day:Int}{kv:List (ByteArray × Value)}(h:GdsR Z w W B M vd vl vr l base day kv)(hb:Below W.heap.size W W'):GdsR Z w W' B M vd vl vr l base day kv:=
 ⟨h.b.below hb h.b.lt,h.m.of_block (hb.block M h.m.lt),h.lo,h.lt,HBEL_trans h.be hb⟩
theorem GdsR.stored{Z:Zone}{w W W':World}{B M:Nat}{vd vl vr:Value}{l:List ProdD}{base:ByteArray}{day:Int}{kv kv':List (ByteArray × Value)}(h:GdsR Z w W B M vd vl vr l base day kv)(hm:MapIs encS W' M kv')(hk:Keeps (λc=>c≠M) W W'):GdsR Z w W' B M vd vl vr l base day kv':=
 ⟨h.b.keep hk (by have:=h.lt;show B≠M;omega),hm,h.lo,h.lt,below_keeps_ne h.be hk h.lo h.be.size⟩
def OpenPost(Z:Zone)(w:World)(vd vl vr:Value)(l:List ProdD)(base:ByteArray)(day:Int)(E:Int)(e:Ending)(w':World):Prop:=
 Below w.heap.size w w'∧if E=0 then ∃B M kv,e= .returned (.tuple #[.pointer (some ⟨B,0,none⟩),.int .i64 0])∧GdsR Z w w' B M vd vl vr l base day kv∧ProdKv Z w kv l else e= .returned (.tuple #[.pointer none,.int .i64 E])
theorem openPost_no{Z:Zone}{w w':World}{vd vl vr:Value}{l:List ProdD}{base:ByteArray}{day E:Int}(hb:Below w.heap.size w w')(h:E≠0):OpenPost Z w vd vl vr l base day E (.returned (.tuple #[.pointer none,.int .i64 E])) w':=⟨hb,by rw[if_neg h]⟩
theorem open_any(Z:Zone)(vd vl v vr:Value)(t:TarD)(l:List ProdD)(r:List RateD)(base id:ByteArray)(day:Int)(w:World)(ht:TarR Z w vd vl t)(h:Prods Z w v l)(hr:Rates Z w vr r)(hz:∀b,Z b->b<w.heap.size)(hf:t.fine)(hbs:base.size≤140737488355328)(htab:TabB w.heap.size w):
  Calls Tryz.prog 28 #[.agg #[vd,vl],v,vr,.string base,.string id,.int .i64 day] w (OpenPost Z w vd vl vr l base day (openE t l r base id day)):=by
 have hmm:= @run_makeMap Tryz.prog;have HCK:=hid (λW(hW:Below w.heap.size w W)=>pcheck_any Z vd vl v t l W (ht.keep (Keeps.of_below hW)) (h.keep (Keeps.of_below hW)) (λb hb=>Nat.lt_of_lt_of_le (hz b hb) hW.size) hf ((htab.on hW).mono hW.size));have HRV:=hid (λW(hW:Below w.heap.size w W)=>ratesValid_any Z vr r base W (hr.keep (Keeps.of_below hW)) hbs);obtain⟨A,cap,rfl,hll,hs⟩:=h.form;have HS:=hid (And.intro hs hz);obtain⟨A2,cap2,hvl⟩:∃A2 cap2,vl= .slice A2 t.lines.length cap2:=by obtain⟨⟨A2,cap2,e,_⟩⟩:=ht.l;exact⟨A2,cap2,e⟩
 obtain⟨A3,cap3,hvd⟩:∃A3 cap3,vd= .slice A3 t.dom.length cap3:=by obtain⟨⟨A3,cap3,e,_⟩,_⟩:=ht.d;exact⟨A3,cap3,e⟩
 obtain⟨A4,cap4,hvr⟩:∃A4 cap4,vr= .slice A4 r.length cap4:=by obtain⟨⟨A4,cap4,e,_⟩,_⟩:=hr;exact⟨A4,cap4,e⟩
 subst hvl hvd hvr;obtain⟨EE,hEE⟩:∃EE,EE=openE t l r base id day:=⟨_,rfl⟩;rw[<-hEE];unfold openE at hEE;have HE:=hid hEE;have HND:=hid (λ(hc:checkP t l=0)=>(show(idsP l).Nodup from by obtain⟨_,_,⟨o,ho⟩,_⟩:=checkP_ok hc;exact ho.ids));generalize checkP t l=ce at*;obtain⟨b1,hb1⟩:∃b,b=validRates r base:=⟨_,rfl⟩;rw[<-hb1]at HRV HE;obtain⟨b2,hb2⟩:∃b,b=(decide (0≤day)&&decide (day≤100000)):=⟨_,rfl⟩;have HB2:=hid hb2;rw[show dayOk day=b2 from by rw[hb2];unfold dayOk;simp]at HE;clear ht h hr hs hz hf hbs htab hEE hb1 hb2;generalize t.dom.length=dl at*;generalize t.lines.length=nl at*;generalize r.length=rl at*;have bk:=Blk.new w 27 #[.slice A3 dl cap3,.slice A2 nl cap2];have hB0:=below1 w (.cells #[.slice A3 dl cap3,.slice A2 nl cap2] 27);go_enter Tryz.func28,Tryz.ntmps28
 go_upto_region 1 with fail
 generalize w.alloc (.cells #[.slice A3 dl cap3,.slice A2 nl cap2] 27)=w0 at*;have k0:=bk.at0;have k1:=bk.at1;have kl:=bk.lt;have HB:=hid (And.intro bk hB0);clear bk hB0;go_wp2_with fail
 refine(HCK.out _ HB.out.2).mono ?_;rintro e w1 ⟨rfl,hb1⟩;have bk:=HB.out.1.below hb1 HB.out.1.lt;have hB1:=HBEL_trans HB.out.2 hb1;clear hb1 HB HCK k0 k1 kl;by_cases hce:ce=0
 ·subst hce;have HE1:=hid (HE.out.trans (if_neg (by decide)));have HND1:=hid (HND.out (by first|exact rfl|trivial));clear HE HND;have HB:=hid (And.intro bk hB1);clear bk hB1;go_wp2_with fail
  refine(HRV.out _ HB.out.2).mono ?_;rintro e w2 ⟨rfl,hb2⟩;have bk:=HB.out.1.below hb2 HB.out.1.lt;have hB2:=HBEL_trans HB.out.2 hb2;clear hb2 HB HRV;cases b1
  ·have HX:=hid (HE1.out.trans (if_pos (by simp)));clear HE1 HND1;(go_wp2_with fail);go_ret2;rw[HX.out];exact openPost_no hB2 (by decide)
  by_cases hd0:day<0
  ·have HX:=hid (HE1.out.trans (if_pos (by rw[HB2.out];simp;omega)));clear HE1 HND1 HB2;(go_wp2_with fail);go_ret2;rw[HX.out];exact openPost_no hB2 (by decide)
  by_cases hd1:100000<day
  ·have HX:=hid (HE1.out.trans (if_pos (by rw[HB2.out];simp;omega)));clear HE1 HND1 HB2;(go_wp2_with fail);go_ret2;rw[HX.out];exact openPost_no hB2 (by decide)
  have HE2:=hid (HE1.out.trans (if_neg (by rw[HB2.out];simp;omega)));clear HE1 HB2;have k0:=bk.at0;have k1:=bk.at1;have kl:=bk.lt;have HB:=hid (And.intro bk hB2);clear bk hB2;go_upto_region 7 with fail
  have bk:=HB.out.1.alloc (.map #[] 0)
  have hg0:GdsR Z w ((w2.alloc (.map #[] 0)).alloc (.cells #[.slice A3 dl cap3,.slice A2 nl cap2,.map (some w2.heap.size),.slice A4 rl cap4,.string base,.int .i64 day] 114)) (w2.heap.size+1) w2.heap.size (.slice A3 dl cap3) (.slice A2 nl cap2) (.slice A4 rl cap4) l base day []:=by
   have hb:=Blk.new (w2.alloc (.map #[] 0)) 114 #[.slice A3 dl cap3,.slice A2 nl cap2,.map (some w2.heap.size),.slice A4 rl cap4,.string base,.int .i64 day];rw[World.size_alloc]at hb;exact⟨hb,(MapIs.made w2 encS).of_block (Below.heap_alloc _ _ _ (by simp)),HB.out.2.size,Nat.lt_succ_self _,(HB.out.2.alloc HB.out.2.size _).alloc (by have:=HB.out.2.size;simp;omega) _⟩
  obtain⟨M,hM⟩:∃M,M=w2.heap.size:=⟨_,rfl⟩;rw[<-hM]at hg0⊢;clear k0 k1 kl HB bk;generalize (w2.alloc (.map #[] 0)).alloc (.cells #[.slice A3 dl cap3,.slice A2 nl cap2,.map (some M),.slice A4 rl cap4,.string base,.int .i64 day] 114)=w3 at*;clear hM;have HG0:=hid hg0;clear hg0;go_wp2;go_loopw[47] (λi wr=>∃(k:Nat)(kv:List (ByteArray × Value)),k≤l.length∧i= .int .i64 k∧GdsR Z w wr (M+1) M (.slice A3 dl cap3) (.slice A2 nl cap2) (.slice A4 rl cap4) l base day kv∧Hid (ProdKv Z w kv (l.take k))) (λi _=>l.length-(intOf i).toNat);case atStart=>exact⟨0,[],Nat.zero_le _,rfl,HG0.out,hid (λid=>⟨λ_=>rfl,λp hp=>by simp at hp⟩)⟩
  case round=>
   obtain⟨k,kv,hk,rfl,hgd,hkv⟩:=hrel;clear HG0;by_cases hlt:k<l.length
   ·obtain⟨b,off,cs,rfl,hzb,hc,hR⟩:=HS.out.1.at_ hlt;have hbs:=HS.out.2 b hzb;have HRC:=hid hR;obtain⟨CA,ccap,PA,pcap,rfl,hcas,hcomp,hfit⟩:=hR.form2;have hcb:=cells_below hgd.be hbs hc;have c0:wr.cell? ⟨b,off+k*5,none⟩=_:=hcb 0 _ rfl;have c1:wr.cell? ⟨b,off+k*5+1,none⟩=_:=hcb 1 _ rfl;have c2:wr.cell? ⟨b,off+k*5+2,none⟩=_:=hcb 2 _ rfl;have c3:wr.cell? ⟨b,off+k*5+3,none⟩=_:=hcb 3 _ rfl;have c4:wr.cell? ⟨b,off+k*5+4,none⟩=_:=hcb 4 _ rfl
    have HNX:=hid (ProdKv.add hkv.out hlt (by
     intro hm;obtain⟨q,hq,he⟩:=List.mem_map.1 hm;obtain⟨j,hj,rfl⟩:=List.mem_take_iff_getElem.1 hq;have hn:=List.pairwise_iff_getElem.1 (show(idsP l).Pairwise (· ≠ ·) from HND1.out) j k (by unfold idsP;simp;omega) (by unfold idsP;simp;omega) (by omega);unfold idsP at hn;simp at hn
     exact hn he) HRC.out)
    (have hk1:((k:Nat):Int)<(l.length:Int):=by omega);(have hk0:(0:Int)≤((k:Nat):Int):=by omega);clear hc hcb hR hcas hcomp hfit HRC;generalize l[k]=p at*;have hX:=Blk.new wr 42 #[.string p.id,.slice CA p.cas.length ccap,.string p.cur,.int .i64 p.units,.slice PA p.parts.length pcap];have hg1:=hgd.below (below1 wr (.cells #[.string p.id,.slice CA p.cas.length ccap,.string p.cur,.int .i64 p.units,.slice PA p.parts.length pcap] 42));obtain⟨XB,hXB⟩:∃XB,XB=wr.heap.size:=⟨_,rfl⟩;rw[<-hXB]at hX;(go_upto_region 10 with fail);rw[<-hXB];clear hXB hgd c0 c1 c2 c3 c4;generalize wr.alloc (.cells #[.string p.id,.slice CA p.cas.length ccap,.string p.cur,.int .i64 p.units,.slice PA p.parts.length pcap] 42)=w4 at*;go_wp2;refine wp_region_S 7 (λW=>W.cell? ⟨M+1,2,none⟩=some (.map (some M))∧W.cell? ⟨XB,0,none⟩=some (.string p.id)∧W.cell? ⟨XB,1,none⟩=some (.slice CA p.cas.length ccap)∧W.cell? ⟨XB,2,none⟩=some (.string p.cur)∧W.cell? ⟨XB,3,none⟩=some (.int .i64 p.units)∧W.cell? ⟨XB,4,none⟩=some (.slice PA p.parts.length pcap)) (by kernel_rfl) ?_;have hS:(λW:World=>W.cell? ⟨M+1,2,none⟩=some (.map (some M))∧W.cell? ⟨XB,0,none⟩=some (.string p.id)∧W.cell? ⟨XB,1,none⟩=some (.slice CA p.cas.length ccap)∧W.cell? ⟨XB,2,none⟩=some (.string p.cur)∧W.cell? ⟨XB,3,none⟩=some (.int .i64 p.units)∧W.cell? ⟨XB,4,none⟩=some (.slice PA p.parts.length pcap)) w4.drew:=⟨hg1.b.at2,hX.at0,hX.at1,hX.at2,hX.at3,hX.at4⟩;have hg2:=hg1.below ((Below.refl _ w4).drew);clear hX hg1;generalize w4.drew=w5 at*
    (refine tkZ 0 ?_ hS ?_ ?_;rotate_left;intro w;go_simp;(try with_reducible rfl);simp only[nr])
    (refine tkZ 1 ?_ hS ?_ ?_;rotate_left;intro w;go_simp;(try with_reducible rfl);simp only[nr])
    (refine tkZ 2 ?_ hS ?_ ?_;rotate_left;intro w;go_simp;(try with_reducible rfl);simp only[nr])
    (refine tkS 3 ?_ hS ?_ ?_;rotate_left;intro w hSw;obtain⟨h1,h2,h3,h4,h5,h6⟩:=hSw;go_simp;(try with_reducible rfl);simp only[nr])
    (refine tkZ 4 ?_ hS ?_ ?_;rotate_left;intro w;go_simp;(try with_reducible rfl);simp only[nr])
    (refine tkS 5 ?_ hS ?_ ?_;rotate_left;intro w hSw;obtain⟨h1,h2,h3,h4,h5,h6⟩:=hSw;go_simp;(try with_reducible rfl);simp only[nr])
    (refine tkS 6 ?_ hS ?_ ?_;rotate_left;intro w hSw;obtain⟨h1,h2,h3,h4,h5,h6⟩:=hSw;go_simp;(try with_reducible rfl);simp only[nr])
    simp only[List.getElem_toArray,List.getElem_cons_zero,List.getElem_cons_succ,nr];refine wS1 7 (λK hK=> ?_);refine wp_mapStore (.tmp 54) (.tmp 56) (.tmp 57) rfl (keyOk_string (P:=Tryz.prog) (k:=9) Tryz.underlying9) (e:=42) Tryz.underlying112 rfl hg2.m p.id rfl ?_;intro w6 hm6 hk6 hsz6 hce6 hfr6;have hm6:MapIs encS w6 M (kvSet kv p.id (.agg #[.string p.id,.slice CA p.cas.length ccap,.string p.cur,.int .i64 p.units,.slice PA p.parts.length pcap])):=hm6;have HG6:=hid (hg2.stored hm6 hk6);refine hK _ _ (Or.inl rfl) ?_;clear hK K hS hg2 hm6 hk6 hsz6 hce6 hfr6
    (try simp only[nr])
    refine wSd ?_ _;go_wp2;go_roundw;(case rel=>exact⟨k+1,_,by omega,by go_num,HG6.out,hid HNX.out⟩);case measure=>simp[intOf];omega
   ·(obtain rfl:k=l.length:=by omega);have HKV:=hid (show ProdKv Z w kv l from by have:=hkv.out;rwa[List.take_length]at this);have HFI:=hid (HKV.out id)
    have hlk:(Instr.lookup 112 (.map (some M)) (.string id) true).run Tryz.prog wr= .ok (.tuple #[(kvGet kv id).getD (.agg #[.string ⟨#[]⟩,.slice none 0 0,.string ⟨#[]⟩,.int .i64 0,.slice none 0 0]),.bool (kvGet kv id).isSome]) wr:=
     MapIs.look (w:=wr) hgd.m (keyOk_string (P:=Tryz.prog) (k:=9) Tryz.underlying9) (t:=112) (e:=42) Tryz.underlying112 (Tryz.zeroProd _) id true
    have g2:=hgd.b.at2;have gl:=hgd.b.lt;by_cases hin:id∈idsP l
    ·have HX:=hid (HE2.out.trans (if_pos hin));obtain⟨q,hq,hqe⟩:=List.mem_map.1 hin
     obtain⟨q',hq'⟩:∃q',l.find? (λp=>decide (p.id=id))=some q':=by
      cases hf:l.find? (λp=>decide (p.id=id))with
      |none=>exact absurd (List.find?_eq_none.1 hf q hq) (by simpa using hqe)
      |some q'=>exact⟨q',rfl⟩
     obtain⟨cs,hcs,hRq⟩:=HFI.out.2 q' hq';obtain⟨CA,ccap,PA,pcap,rfl,_,_,_⟩:=hRq.form2;rw[hcs]at hlk;have HG:=hid hgd;clear hgd hq hqe hq' hcs hRq HE2 hin;(go_wp2_with fail);go_ret2;rw[HX.out];refine⟨(HG.out.below (below1 wr _)).be,?_⟩;rw[if_pos rfl];exact⟨M+1,M,kv,rfl,HG.out.below (below1 wr _),HKV.out⟩
    ·have HX:=hid (HE2.out.trans (if_neg hin))
     have hno:l.find? (λp=>decide (p.id=id))=none:=by
      rw[List.find?_eq_none];intro p hp he;exact hin (List.mem_map.2 ⟨p,hp,by simpa using he⟩)
     have hnn:=HFI.out.1 hno;rw[hnn]at hlk;have HG:=hid hgd;clear hgd hno hnn HE2 hin;(go_wp2_with fail);go_ret2;rw[HX.out];exact openPost_no (HG.out.below (below1 wr _)).be (by decide)
 ·have HX:=hid (HE.out.trans (if_pos hce));clear HE HND;have hce2:(ce==0)=false:=by simp[hce]
  go_wp2_with fail
  go_ret2;rw[HX.out];exact openPost_no hB1 hce
end
section
open Go.Shelf
structure OwB (Z:Zone) (w W W':World) (B M:Nat) (vd vl vr:Value) (l:List ProdD) (base:ByteArray) (day:Int) (kv:List (ByteArray × Value)) (CA:Option Addr) (cn cc:Nat) (PA:Option Addr) (pn pc:Nat) (id cur:ByteArray) (u:Int):Prop where
 g:GdsR Z w W' B M vd vl vr l base day kv
 p:Blk W' W.heap.size 42 #[.string id,.slice CA cn cc,.string cur,.int .i64 u,.slice PA pn pc]
 r:Blk W' (W.heap.size+1) 80 #[.bool false,.string ⟨#[]⟩,.string ⟨#[]⟩,.int .i64 0]
 be:Below W.heap.size W W'
 hi:B<W.heap.size
section
variable {Z:Zone} {w W W' W'':World} {B M:Nat} {vd vl vr:Value} {l:List ProdD} {base:ByteArray} {day:Int} {kv:List (ByteArray × Value)} {CA:Option Addr} {cn cc:Nat} {PA:Option Addr} {pn pc:Nat} {id cur:ByteArray} {u:Int}
theorem OwB.below(h:OwB Z w W W' B M vd vl vr l base day kv CA cn cc PA pn pc id cur u)(hb:Below W'.heap.size W' W''):OwB Z w W W'' B M vd vl vr l base day kv CA cn cc PA pn pc id cur u:=
 ⟨h.g.below hb,h.p.below hb h.p.lt,h.r.below hb h.r.lt,HBEL_trans h.be hb,h.hi⟩
theorem OwB.new(h:GdsR Z w W B M vd vl vr l base day kv)(CA:Option Addr)(cn cc:Nat)(PA:Option Addr)(pn pc:Nat)(id cur:ByteArray)(u:Int):
  OwB Z w W ((W.alloc (.cells #[.string id,.slice CA cn cc,.string cur,.int .i64 u,.slice PA pn pc] 42)).alloc (.cells #[.bool false,.string ⟨#[]⟩,.string ⟨#[]⟩,.int .i64 0] 80)) B M vd vl vr l base day kv CA cn cc PA pn pc id cur u:=by
 have h1:=Blk.new (W.alloc (.cells #[.string id,.slice CA cn cc,.string cur,.int .i64 u,.slice PA pn pc] 42)) 80 #[.bool false,.string ⟨#[]⟩,.string ⟨#[]⟩,.int .i64 0];rw[World.size_alloc]at h1;exact⟨(h.below (below1 W _)).below (below1 _ _),(Blk.new W _ _).alloc _,h1,(below1 W _).alloc (by simp) _,h.b.lt⟩
theorem OwB.out(h:OwB Z w W W' B M vd vl vr l base day kv CA cn cc PA pn pc id cur u)(t:Bool)(x y:ByteArray)(s:Int):
  Blk ((((W'.setCell ⟨W.heap.size+1,0,none⟩ (.bool t)).setCell ⟨W.heap.size+1,1,none⟩ (.string x)).setCell ⟨W.heap.size+1,2,none⟩ (.string y)).setCell ⟨W.heap.size+1,3,none⟩ (.int .i64 s)) (W.heap.size+1) 80 #[.bool t,.string x,.string y,.int .i64 s]∧
  Below W.heap.size W ((((W'.setCell ⟨W.heap.size+1,0,none⟩ (.bool t)).setCell ⟨W.heap.size+1,1,none⟩ (.string x)).setCell ⟨W.heap.size+1,2,none⟩ (.string y)).setCell ⟨W.heap.size+1,3,none⟩ (.int .i64 s)):=by
 have hl:W.heap.size≤W.heap.size+1:=by omega
 exact⟨(((h.r.set_ 0 _).set_ 1 _).set_ 2 _).set_ 3 _,(((h.be.setCell hl _).setCell hl _).setCell hl _).setCell hl _⟩
theorem OwB.set3(h:OwB Z w W W' B M vd vl vr l base day kv CA cn cc PA pn pc id cur u){R:Nat}(hR:W.heap.size+1<R)(x:Bool)(y z:ByteArray):
  OwB Z w W (((W'.setCell ⟨R,0,none⟩ (.bool x)).setCell ⟨R,1,none⟩ (.string y)).setCell ⟨R,2,none⟩ (.string z)) B M vd vl vr l base day kv CA cn cc PA pn pc id cur u:=by
 have one:∀{V:World}(h:OwB Z w W V B M vd vl vr l base day kv CA cn cc PA pn pc id cur u)(i:Nat)(v:Value),OwB Z w W (V.setCell ⟨R,i,none⟩ v) B M vd vl vr l base day kv CA cn cc PA pn pc id cur u:=λh i v=>
  have hb:Below R _ _:=(Below.refl R _).setCell (Nat.le_refl _) v
  ⟨⟨h.g.b.far (by show B≠R;have:=h.hi;omega) v,h.g.m.of_block (hb.block M (by have:=h.hi;have:=h.g.lt;omega)),h.g.lo,h.g.lt,h.g.be.setCell (by have:=h.hi;have:=h.g.lt;have:=h.g.lo;show w.heap.size≤R;omega) v⟩,h.p.far (by show W.heap.size≠R;omega) v,h.r.far (by show W.heap.size+1≠R;omega) v,h.be.setCell (by show W.heap.size≤R;omega) v,h.hi⟩
 exact one (one (one h 0 _) 1 _) 2 _
end
theorem own_any(Z:Zone)(w W:World)(B M:Nat)(vd vl vr:Value)(l:List ProdD)(r:List RateD)(base:ByteArray)(day:Int)(kv:List (ByteArray × Value))(hg:GdsR Z w W B M vd vl vr l base day kv)(hr:Rates Z w vr r)(hz:∀b,Z b->b<w.heap.size)(hbs:base.size≤140737488355328)(htab:TabB w.heap.size w)
  (p:ProdD)(cs:List Value)(hp:ProdR Z w cs p):
  Calls Tryz.prog 30 #[.pointer (some ⟨B,0,none⟩),.agg cs.toArray] W λe W'=>e= .returned (.tuple #[resV (ownP r base day p).1,.bool (ownP r base day p).2])∧Below W.heap.size W W':=by
 obtain⟨CA,cc,PA,pc,rfl,_,_,hfit⟩:=hp.form2;have HCV:=hid (λU(hU:Below W.heap.size W U)=>convert_any Z vr r base p.cur base p.units day U (hr.keep (Keeps.of_below (hg.be.trans (hU.mono hg.be.size)))) (λb hb=>Nat.lt_of_lt_of_le (hz b hb) (Nat.le_trans hg.be.size hU.size)) hbs hfit.2.1 hbs ((htab.on (hg.be.trans (hU.mono hg.be.size))).mono (Nat.le_trans hg.be.size hU.size)));unfold ownP;dsimp only;generalize convR r base p.cur p.units base day=R at*;generalize p.cas.length=cn at*;generalize p.parts.length=pn at*;generalize p.id=pid at*;generalize p.cur=pcur at*;generalize p.units=pu at*;obtain⟨r1,r2,r3,hR⟩:=rtE_tri R;rw[hR]at HCV;have HRV:=hid (resV_of hR);obtain⟨A4,cap4,hvr⟩:∃A4 cap4,vr= .slice A4 r.length cap4:=by obtain⟨⟨A4,cap4,e,_⟩,_⟩:=hr;exact⟨A4,cap4,e⟩
 subst hvr;generalize r.length=rl at*;have h0:=OwB.new hg CA cn cc PA pn pc pid pcur pu;clear hR hg hr hz hbs htab hp hfit;go_enter Tryz.func30,Tryz.ntmps30
 go_upto_region 1 with fail
 generalize (W.alloc (.cells #[.string pid,.slice CA cn cc,.string pcur,.int .i64 pu,.slice PA pn pc] 42)).alloc (.cells #[.bool false,.string ⟨#[]⟩,.string ⟨#[]⟩,.int .i64 0] 80)=w0 at*
 have HC:=hid (λV(hV:OwB Z w W V B M vd vl (.slice A4 rl cap4) l base day kv CA cn cc PA pn pc pid pcur pu)=>(show V.cell? ⟨B,3,none⟩=some (.slice A4 rl cap4)∧V.cell? ⟨B,4,none⟩=some (.string base)∧V.cell? ⟨B,5,none⟩=some (.int .i64 day)∧V.cell? ⟨W.heap.size,2,none⟩=some (.string pcur)∧V.cell? ⟨W.heap.size,3,none⟩=some (.int .i64 pu) from
  ⟨hV.g.b.at3,hV.g.b.at4,hV.g.b.cell 5,hV.p.at2,hV.p.at3⟩))
 go_wp2;refine wp_region_S 23 (λV=>OwB Z w W V B M vd vl (.slice A4 rl cap4) l base day kv CA cn cc PA pn pc pid pcur pu) (by kernel_rfl) ?_;have hS:(λV=>OwB Z w W V B M vd vl (.slice A4 rl cap4) l base day kv CA cn cc PA pn pc pid pcur pu) w0.drew:=h0.below (Below.refl _ _).drew;clear h0;generalize w0.drew=w1 at*
 (refine tkZ 0 ?_ hS ?_ ?_;rotate_left;intro w;go_simp;(try with_reducible rfl);simp only[nr])
 try simp only[List.getElem_toArray,List.getElem_cons_zero,List.getElem_cons_succ,nr]
 (refine tkZ 1 ?_ hS ?_ ?_;rotate_left;intro w;go_simp;(try with_reducible rfl);simp only[nr])
 try simp only[List.getElem_toArray,List.getElem_cons_zero,List.getElem_cons_succ,nr]
 (refine tkZ 2 ?_ hS ?_ ?_;rotate_left;intro w;go_simp;(try with_reducible rfl);simp only[nr])
 try simp only[List.getElem_toArray,List.getElem_cons_zero,List.getElem_cons_succ,nr]
 (refine tkS 3 ?_ hS ?_ ?_;rotate_left;intro w hkw;obtain⟨g3,g4,g5,p2,p3⟩:=HC.out _ hkw;clear hkw;go_simp;(try with_reducible rfl);simp only[nr])
 try simp only[List.getElem_toArray,List.getElem_cons_zero,List.getElem_cons_succ,nr]
 (refine tkZ 4 ?_ hS ?_ ?_;rotate_left;intro w;go_simp;(try with_reducible rfl);simp only[nr])
 try simp only[List.getElem_toArray,List.getElem_cons_zero,List.getElem_cons_succ,nr]
 (refine tkZ 5 ?_ hS ?_ ?_;rotate_left;intro w;go_simp;(try with_reducible rfl);simp only[nr])
 try simp only[List.getElem_toArray,List.getElem_cons_zero,List.getElem_cons_succ,nr]
 (refine tkZ 6 ?_ hS ?_ ?_;rotate_left;intro w;go_simp;(try with_reducible rfl);simp only[nr])
 try simp only[List.getElem_toArray,List.getElem_cons_zero,List.getElem_cons_succ,nr]
 (refine tkS 7 ?_ hS ?_ ?_;rotate_left;intro w hkw;obtain⟨g3,g4,g5,p2,p3⟩:=HC.out _ hkw;clear hkw;go_simp;(try with_reducible rfl);simp only[nr])
 try simp only[List.getElem_toArray,List.getElem_cons_zero,List.getElem_cons_succ,nr]
 (refine tkZ 8 ?_ hS ?_ ?_;rotate_left;intro w;go_simp;(try with_reducible rfl);simp only[nr])
 try simp only[List.getElem_toArray,List.getElem_cons_zero,List.getElem_cons_succ,nr]
 (refine tkS 9 ?_ hS ?_ ?_;rotate_left;intro w hkw;obtain⟨g3,g4,g5,p2,p3⟩:=HC.out _ hkw;clear hkw;go_simp;(try with_reducible rfl);simp only[nr])
 try simp only[List.getElem_toArray,List.getElem_cons_zero,List.getElem_cons_succ,nr]
 (refine tkZ 10 ?_ hS ?_ ?_;rotate_left;intro w;go_simp;(try with_reducible rfl);simp only[nr])
 try simp only[List.getElem_toArray,List.getElem_cons_zero,List.getElem_cons_succ,nr]
 (refine tkZ 11 ?_ hS ?_ ?_;rotate_left;intro w;go_simp;(try with_reducible rfl);simp only[nr])
 try simp only[List.getElem_toArray,List.getElem_cons_zero,List.getElem_cons_succ,nr]
 (refine tkZ 12 ?_ hS ?_ ?_;rotate_left;intro w;go_simp;(try with_reducible rfl);simp only[nr])
 try simp only[List.getElem_toArray,List.getElem_cons_zero,List.getElem_cons_succ,nr]
 (refine tkS 13 ?_ hS ?_ ?_;rotate_left;intro w hkw;obtain⟨g3,g4,g5,p2,p3⟩:=HC.out _ hkw;clear hkw;go_simp;(try with_reducible rfl);simp only[nr])
 try simp only[List.getElem_toArray,List.getElem_cons_zero,List.getElem_cons_succ,nr]
 (refine tkZ 14 ?_ hS ?_ ?_;rotate_left;intro w;go_simp;(try with_reducible rfl);simp only[nr])
 try simp only[List.getElem_toArray,List.getElem_cons_zero,List.getElem_cons_succ,nr]
 (refine tkZ 15 ?_ hS ?_ ?_;rotate_left;intro w;go_simp;(try with_reducible rfl);simp only[nr])
 try simp only[List.getElem_toArray,List.getElem_cons_zero,List.getElem_cons_succ,nr]
 (refine tkZ 16 ?_ hS ?_ ?_;rotate_left;intro w;go_simp;(try with_reducible rfl);simp only[nr])
 try simp only[List.getElem_toArray,List.getElem_cons_zero,List.getElem_cons_succ,nr]
 (refine tkS 17 ?_ hS ?_ ?_;rotate_left;intro w hkw;obtain⟨g3,g4,g5,p2,p3⟩:=HC.out _ hkw;clear hkw;go_simp;(try with_reducible rfl);simp only[nr])
 try simp only[List.getElem_toArray,List.getElem_cons_zero,List.getElem_cons_succ,nr]
 refine wS2 18 22 (λK hK=> ?_) (λK hK=> ?_)
 ·go_wp2_with fail
  refine(HCV.out _ hS.be).mono ?_;rintro e w2 ⟨rfl,hb2⟩;have hS2:=hS.below hb2;refine hK _ _ (Or.inr hS2) ?_;clear hK K;try simp only[List.getElem_toArray,List.getElem_cons_zero,List.getElem_cons_succ,nr]
  replace hS:(λV=>OwB Z w W V B M vd vl (.slice A4 rl cap4) l base day kv CA cn cc PA pn pc pid pcur pu) w2:=hS2;clear hS2
  (refine tkZ 19 ?_ hS ?_ ?_;rotate_left;intro w;go_simp;(try with_reducible rfl);simp only[nr])
  try simp only[List.getElem_toArray,List.getElem_cons_zero,List.getElem_cons_succ,nr]
  (refine tkZ 20 ?_ hS ?_ ?_;rotate_left;intro w;go_simp;(try with_reducible rfl);simp only[nr])
  try simp only[List.getElem_toArray,List.getElem_cons_zero,List.getElem_cons_succ,nr]
  (refine tkZ 21 ?_ hS ?_ ?_;rotate_left;intro w;go_simp;(try with_reducible rfl);simp only[nr])
  try simp only[List.getElem_toArray,List.getElem_cons_zero,List.getElem_cons_succ,nr]
  refine wS1 22 (λK hK=> ?_);go_wp2_with fail
  have hS3:=hS.below (below1 w2 (.cells #[.bool false,.string ⟨#[]⟩,.string ⟨#[]⟩] 53));have hX:=Blk.new w2 53 #[.bool false,.string ⟨#[]⟩,.string ⟨#[]⟩];have hRB:W.heap.size+1<w2.heap.size:=hS.r.lt;refine hK _ _ (Or.inr hS3) ?_;clear hK K;try simp only[List.getElem_toArray,List.getElem_cons_zero,List.getElem_cons_succ,nr]
  replace hS:(λV=>OwB Z w W V B M vd vl (.slice A4 rl cap4) l base day kv CA cn cc PA pn pc pid pcur pu) (w2.alloc (.cells #[.bool false,.string ⟨#[]⟩,.string ⟨#[]⟩] 53)):=hS3;clear hS3;generalize w2.alloc (.cells #[.bool false,.string ⟨#[]⟩,.string ⟨#[]⟩] 53)=w3 at*;generalize w2.heap.size=RB at*;have q0:=hX.at0;have q1:=hX.at1;have q2:=hX.at2;have f0:=hX.frozen 0;have f1:=hX.frozen 1;have f2:=hX.frozen 2;have ql:=hX.lt;refine wS1 23 (λK hK=> ?_);go_wp2_with fail
  refine hK _ _ (Or.inl rfl) ?_;clear hK K q0 q1 q2 f0 f1 f2 ql;try simp only[List.getElem_toArray,List.getElem_cons_zero,List.getElem_cons_succ,nr]
  have hS6:=hS.set3 hRB r1 r2 r3;have hX6:=((hX.set_ 0 (.bool r1)).set_ 1 (.string r2)).set_ 2 (.string r3);refine wS1 24 (λK hK=> ?_);go_wp2_with fail
  refine hK _ _ (Or.inl rfl) ?_;clear hK K hS hX;try simp only[List.getElem_toArray,List.getElem_cons_zero,List.getElem_cons_succ,nr]
  refine wSd ?_ _;generalize ((w3.setCell ⟨RB,0,none⟩ (.bool r1)).setCell ⟨RB,1,none⟩ (.string r2)).setCell ⟨RB,2,none⟩ (.string r3)=w4 at*;have q0:=hX6.at0;have q1:=hX6.at1;have q2:=hX6.at2;have ql:=hX6.lt;have r0':=hS6.r.at0;have r1':=hS6.r.at1;have r2':=hS6.r.at2;have r3':=hS6.r.at3;have f0:=hS6.r.frozen 0;have f1:=hS6.r.frozen 1;have f2:=hS6.r.frozen 2;have f3:=hS6.r.frozen 3;have fl:=hS6.r.lt;have H6:=hid hS6;clear hS6 hX6;go_wp2_with fail
  have HO:=H6.out.out r1 r2 r3 R.2;have r0':=HO.1.at0;have r1':=HO.1.at1;have r2':=HO.1.at2;have r3':=HO.1.at3;exact bodyPost_ret (v:= .tuple #[.agg #[.bool r1,.string r2,.string r3,.int .i64 R.2],.bool false]) (by simp[results,Tryz.results30,go_sem,r0',r1',r2',r3']) rfl ⟨by rw[HRV.out],HO.2⟩
 ·go_wp2_with fail
  have hS3:=hS.below (below1 w1 (.cells #[.bool false,.string ⟨#[]⟩,.string ⟨#[]⟩] 53));have hX:=Blk.new w1 53 #[.bool false,.string ⟨#[]⟩,.string ⟨#[]⟩];have hRB:W.heap.size+1<w1.heap.size:=hS.r.lt;refine hK _ _ (Or.inr hS3) ?_;clear hK K;try simp only[List.getElem_toArray,List.getElem_cons_zero,List.getElem_cons_succ,nr]
  replace hS:(λV=>OwB Z w W V B M vd vl (.slice A4 rl cap4) l base day kv CA cn cc PA pn pc pid pcur pu) (w1.alloc (.cells #[.bool false,.string ⟨#[]⟩,.string ⟨#[]⟩] 53)):=hS3;clear hS3;generalize w1.alloc (.cells #[.bool false,.string ⟨#[]⟩,.string ⟨#[]⟩] 53)=w2' at*;generalize w1.heap.size=RB at*;refine wS1 18 (λK hK=> ?_);go_wp2_with fail
  refine(HCV.out _ hS.be).mono ?_;rintro e w3 ⟨rfl,hb2⟩;have hS2:=hS.below hb2;replace hX:=hX.below hb2 hX.lt;refine hK _ _ (Or.inr hS2) ?_;clear hK K hb2;try simp only[List.getElem_toArray,List.getElem_cons_zero,List.getElem_cons_succ,nr]
  replace hS:(λV=>OwB Z w W V B M vd vl (.slice A4 rl cap4) l base day kv CA cn cc PA pn pc pid pcur pu) w3:=hS2;clear hS2
  (refine tkZ 19 ?_ hS ?_ ?_;rotate_left;intro w;go_simp;(try with_reducible rfl);simp only[nr])
  try simp only[List.getElem_toArray,List.getElem_cons_zero,List.getElem_cons_succ,nr]
  (refine tkZ 20 ?_ hS ?_ ?_;rotate_left;intro w;go_simp;(try with_reducible rfl);simp only[nr])
  try simp only[List.getElem_toArray,List.getElem_cons_zero,List.getElem_cons_succ,nr]
  (refine tkZ 21 ?_ hS ?_ ?_;rotate_left;intro w;go_simp;(try with_reducible rfl);simp only[nr])
  try simp only[List.getElem_toArray,List.getElem_cons_zero,List.getElem_cons_succ,nr]
  have q0:=hX.at0;have q1:=hX.at1;have q2:=hX.at2;have f0:=hX.frozen 0;have f1:=hX.frozen 1;have f2:=hX.frozen 2;have ql:=hX.lt;refine wS1 23 (λK hK=> ?_);go_wp2_with fail
  refine hK _ _ (Or.inl rfl) ?_;clear hK K q0 q1 q2 f0 f1 f2 ql;try simp only[List.getElem_toArray,List.getElem_cons_zero,List.getElem_cons_succ,nr]
  have hS6:=hS.set3 hRB r1 r2 r3;have hX6:=((hX.set_ 0 (.bool r1)).set_ 1 (.string r2)).set_ 2 (.string r3);refine wS1 24 (λK hK=> ?_);go_wp2_with fail
  refine hK _ _ (Or.inl rfl) ?_;clear hK K hS hX;try simp only[List.getElem_toArray,List.getElem_cons_zero,List.getElem_cons_succ,nr]
  refine wSd ?_ _;generalize ((w3.setCell ⟨RB,0,none⟩ (.bool r1)).setCell ⟨RB,1,none⟩ (.string r2)).setCell ⟨RB,2,none⟩ (.string r3)=w4 at*;have q0:=hX6.at0;have q1:=hX6.at1;have q2:=hX6.at2;have ql:=hX6.lt;have r0':=hS6.r.at0;have r1':=hS6.r.at1;have r2':=hS6.r.at2;have r3':=hS6.r.at3;have f0:=hS6.r.frozen 0;have f1:=hS6.r.frozen 1;have f2:=hS6.r.frozen 2;have f3:=hS6.r.frozen 3;have fl:=hS6.r.lt;have H6:=hid hS6;clear hS6 hX6;go_wp2_with fail
  have HO:=H6.out.out r1 r2 r3 R.2;have r0':=HO.1.at0;have r1':=HO.1.at1;have r2':=HO.1.at2;have r3':=HO.1.at3;exact bodyPost_ret (v:= .tuple #[.agg #[.bool r1,.string r2,.string r3,.int .i64 R.2],.bool false]) (by simp[results,Tryz.results30,go_sem,r0',r1',r2',r3']) rfl ⟨by rw[HRV.out],HO.2⟩
end
end Go.Proofs.YtimmfbnjndndlaaGreatDoor
