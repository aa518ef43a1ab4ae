/- Texts QM QN QO. -/
import Derived.Test.YtimmfbnjndndlaaGreatDoorM37
import Derived.Test.YtimmfbnjndndlaaGreatDoorM38
set_option linter.all false
namespace Go.Proofs.YtimmfbnjndndlaaGreatDoor
open Go.RowKit
set_option maxHeartbeats 8000000
set_option maxRecDepth 100000
structure FdB (w W:World) (cur:ByteArray) (day:Int):Prop where
 c:Blk W w.heap.size 9 #[.string cur]
 d:Blk W (w.heap.size+1) 3 #[.int .i64 day]
 r:Blk W (w.heap.size+1+1) 100 #[.string ⟨#[]⟩,.int .i64 0,.int .i64 0,.int .i64 0]
 be:Below w.heap.size w W
theorem FdB.below{w W W':World}{cur:ByteArray}{day:Int}(h:FdB w W cur day)(hb:Below W.heap.size W W'):FdB w W' cur day:=
 ⟨h.c.below hb h.c.lt,h.d.below hb h.d.lt,h.r.below hb h.r.lt,HBEL_trans h.be hb⟩
theorem FdB.new(w:World)(cur:ByteArray)(day:Int):FdB w (((w.alloc (.cells #[.string cur] 9)).alloc (.cells #[.int .i64 day] 3)).alloc (.cells #[.string ⟨#[]⟩,.int .i64 0,.int .i64 0,.int .i64 0] 100)) cur day:=by
 have h1:=Blk.new (w.alloc (.cells #[.string cur] 9)) 3 #[.int .i64 day];rw[World.size_alloc]at h1;have h2:=Blk.new ((w.alloc (.cells #[.string cur] 9)).alloc (.cells #[.int .i64 day] 3)) 100 #[.string ⟨#[]⟩,.int .i64 0,.int .i64 0,.int .i64 0];rw[World.size_alloc,World.size_alloc]at h2;exact⟨((Blk.new w _ _).alloc _).alloc _,h1.alloc _,h2,((below1 w _).alloc (by simp) _).alloc (by simp;omega) _⟩
theorem FdB.out{w W:World}{cur:ByteArray}{day:Int}(h:FdB w W cur day)(x:ByteArray)(y z u:Int):
  Blk ((((W.setCell ⟨w.heap.size+1+1,0,none⟩ (.string x)).setCell ⟨w.heap.size+1+1,1,none⟩ (.int .i64 y)).setCell ⟨w.heap.size+1+1,2,none⟩ (.int .i64 z)).setCell ⟨w.heap.size+1+1,3,none⟩ (.int .i64 u)) (w.heap.size+1+1) 100 #[.string x,.int .i64 y,.int .i64 z,.int .i64 u]∧
  Below w.heap.size w ((((W.setCell ⟨w.heap.size+1+1,0,none⟩ (.string x)).setCell ⟨w.heap.size+1+1,1,none⟩ (.int .i64 y)).setCell ⟨w.heap.size+1+1,2,none⟩ (.int .i64 z)).setCell ⟨w.heap.size+1+1,3,none⟩ (.int .i64 u)):=
 ⟨(((h.r.set_ 0 _).set_ 1 _).set_ 2 _).set_ 3 _,(((h.be.setCell (by show w.heap.size≤w.heap.size+1+1;omega) _).setCell (by show w.heap.size≤w.heap.size+1+1;omega) _).setCell (by show w.heap.size≤w.heap.size+1+1;omega) _).setCell (by show w.heap.size≤w.heap.size+1+1;omega) _⟩
theorem find_any(Z:Zone)(v:Value)(l:List RateD)(base cur:ByteArray)(day:Int)(w:World)(hl:Rates Z w v l)(hz:∀b,Z b->b<w.heap.size)(hbs:base.size≤140737488355328)(hcs:cur.size≤140737488355328):
  Calls Tryz.prog 96 #[v,.string base,.string cur,.int .i64 day] w λe w'=>e= .returned (.tuple #[rateV (findR l base cur day).1,.int .i64 (findR l base cur day).2])∧Below w.heap.size w w':=by
 have HV:=hid (λW(hW:Below w.heap.size w W)=>ratesValid_any Z v l base W (hl.keep (Keeps.of_below hW)) hbs);have HC:=hid (λW=>isCur_any cur hcs W);have HD:=hid (λW=>isDay_any day W);have HBE:=hid (λW(hW:Below w.heap.size w W) Bc Bd(h1:W.cell? ⟨Bc,0,none⟩=some (.string cur))(h2:W.cell? ⟨Bd,0,none⟩=some (.int .i64 day))=>best_any Z v l cur day Bc Bd W (hl.keep (Keeps.of_below hW)) (λb hb=>Nat.lt_of_lt_of_le (hz b hb) hW.size) h1 h2)
 obtain⟨A,cap,rfl⟩:∃A cap,v= .slice A l.length cap:=by
  obtain⟨⟨A,cap,e,_⟩,_⟩:=hl;exact⟨A,cap,e⟩
 obtain⟨b4,h4⟩:∃b,(cur.toList==base.toList)=b:=⟨_,rfl⟩;obtain⟨RR,hRR⟩:∃RR,RR=findR l base cur day:=⟨_,rfl⟩;rw[<-hRR]
 have hR2:RR=if(validRates l base&&curOk cur&&dayOk day)=false then(rate0,(1:Int))else if b4=true then(⟨base,0,1,1⟩,0)else match bestR l cur day with|none=>(rate0,11)|some x=>(x,0):=by
  rw[hRR];unfold findR;by_cases hc:cur=base
  ·(have e:b4=true:=by rw[<-h4,toList_beq];exact decide_eq_true hc);rw[if_pos hc,if_pos e]
  ·(have e:¬b4=true:=by rw[<-h4,toList_beq];simpa using hc);rw[if_neg hc,if_neg e];rfl
 have HR:=hid hR2;clear hR2 hRR;generalize validRates l base=b1 at*;generalize curOk cur=b2 at*;generalize dayOk day=b3 at*;generalize bestR l cur day=BR at*;clear hl hz hbs hcs;go_enter Tryz.func96,Tryz.ntmps96
 go_wp2_with fail
 have h0:=FdB.new w cur day;generalize ((w.alloc (.cells #[.string cur] 9)).alloc (.cells #[.int .i64 day] 3)).alloc (.cells #[.string ⟨#[]⟩,.int .i64 0,.int .i64 0,.int .i64 0] 100)=w0 at*;refine(HV.out _ h0.be).mono ?_;rintro e w1 ⟨rfl,hb1⟩;replace h0:=h0.below hb1;clear hb1 HV;have c0:=h0.c.at0;have d0:=h0.d.at0;have r0:=h0.r.at0;have r1:=h0.r.at1;have r2:=h0.r.at2;have r3:=h0.r.at3;have g0:=h0.r.frozen 0;have g1:=h0.r.frozen 1;have g2:=h0.r.frozen 2;have g3:=h0.r.frozen 3;have gl:=h0.r.lt;have H0:=hid h0;clear h0;cases b1
 ·have HX:=hid (HR.out.trans (if_pos rfl));go_wp2_with fail
  have HO:=H0.out.out ⟨#[]⟩ 0 0 0;have p0:=HO.1.at0;have p1:=HO.1.at1;have p2:=HO.1.at2;have p3:=HO.1.at3;exact bodyPost_ret (v:= .tuple #[.agg #[.string ⟨#[]⟩,.int .i64 0,.int .i64 0,.int .i64 0],.int .i64 1]) (by simp[results,Tryz.results96,go_sem,p0,p1,p2,p3]) rfl ⟨by rw[HX.out];rfl,HO.2⟩
 ·go_wp2_with fail
  refine(HC.out _).mono ?_;rintro e w3 ⟨rfl,hw3⟩;subst hw3;cases b2
  ·have HX:=hid (HR.out.trans (if_pos rfl));(go_wp2_with fail);have HO:=H0.out.out ⟨#[]⟩ 0 0 0;have p0:=HO.1.at0;have p1:=HO.1.at1;have p2:=HO.1.at2;have p3:=HO.1.at3;exact bodyPost_ret (v:= .tuple #[.agg #[.string ⟨#[]⟩,.int .i64 0,.int .i64 0,.int .i64 0],.int .i64 1]) (by simp[results,Tryz.results96,go_sem,p0,p1,p2,p3]) rfl ⟨by rw[HX.out];rfl,HO.2⟩
  ·(go_wp2_with fail);refine(HD.out _).mono ?_;rintro e w3 ⟨rfl,hw3⟩;subst hw3;cases b3
   ·have HX:=hid (HR.out.trans (if_pos rfl));(go_wp2_with fail);have HO:=H0.out.out ⟨#[]⟩ 0 0 0;have p0:=HO.1.at0;have p1:=HO.1.at1;have p2:=HO.1.at2;have p3:=HO.1.at3;exact bodyPost_ret (v:= .tuple #[.agg #[.string ⟨#[]⟩,.int .i64 0,.int .i64 0,.int .i64 0],.int .i64 1]) (by simp[results,Tryz.results96,go_sem,p0,p1,p2,p3]) rfl ⟨by rw[HX.out];rfl,HO.2⟩
   ·have HR2:=hid (HR.out.trans (if_neg (by decide)));clear HR;cases b4
    ·have HR3:=hid (HR2.out.trans (if_neg (by decide)));clear HR2;(go_wp2_with fail);refine(HBE.out _ H0.out.be _ _ c0 d0).mono ?_;clear HBE c0 d0 r0 r1 r2 r3 g0 g1 g2 g3 gl;rintro e w4 ⟨rfl,hb4⟩;have h5:=H0.out.below hb4
     cases BR with
     |none=>
      have HX:=hid (show RR=(rate0,11) from HR3.out);unfold rateV rate0;dsimp only[Option.getD_none,Option.isSome_none];have h6:=h5.below (below1 w4 (.cells #[.string ⟨#[]⟩,.int .i64 0,.int .i64 0,.int .i64 0] 100));have bx:=Blk.new w4 100 #[.string ⟨#[]⟩,.int .i64 0,.int .i64 0,.int .i64 0];obtain⟨X,hX⟩:∃X,X=w4.heap.size:=⟨_,rfl⟩;rw[<-hX]at bx;have x0:=bx.at0;have x1:=bx.at1;have x2:=bx.at2;have x3:=bx.at3;have xl:=bx.lt;have r0:=h6.r.at0;have r1:=h6.r.at1;have r2:=h6.r.at2;have r3:=h6.r.at3;have g0:=h6.r.frozen 0;have g1:=h6.r.frozen 1;have g2:=h6.r.frozen 2;have g3:=h6.r.frozen 3;have gl:=h6.r.lt;have H0:=hid h6;clear h6 h5 hb4 bx HR3;(go_upto_region 7 with fail);rw[<-hX];generalize w4.alloc (.cells #[.string ⟨#[]⟩,.int .i64 0,.int .i64 0,.int .i64 0] 100)=w5 at*;clear hX;(go_wp2_with fail);have HO:=H0.out.out ⟨#[]⟩ 0 0 0;have p0:=HO.1.at0;have p1:=HO.1.at1;have p2:=HO.1.at2;have p3:=HO.1.at3;exact bodyPost_ret (v:= .tuple #[.agg #[.string ⟨#[]⟩,.int .i64 0,.int .i64 0,.int .i64 0],.int .i64 11]) (by simp[results,Tryz.results96,go_sem,p0,p1,p2,p3]) rfl ⟨by rw[HX.out];rfl,HO.2⟩
     |some x=>
      obtain⟨xc,xd,xn,xe⟩:=x;unfold rateV;dsimp only[Option.getD_some,Option.isSome_some];have HX:=hid (show RR=(⟨xc,xd,xn,xe⟩,0) from HR3.out);have h6:=h5.below (below1 w4 (.cells #[.string xc,.int .i64 xd,.int .i64 xn,.int .i64 xe] 100));have bx:=Blk.new w4 100 #[.string xc,.int .i64 xd,.int .i64 xn,.int .i64 xe];obtain⟨X,hX⟩:∃X,X=w4.heap.size:=⟨_,rfl⟩;rw[<-hX]at bx;have x0:=bx.at0;have x1:=bx.at1;have x2:=bx.at2;have x3:=bx.at3;have xl:=bx.lt;have r0:=h6.r.at0;have r1:=h6.r.at1;have r2:=h6.r.at2;have r3:=h6.r.at3;have g0:=h6.r.frozen 0;have g1:=h6.r.frozen 1;have g2:=h6.r.frozen 2;have g3:=h6.r.frozen 3;have gl:=h6.r.lt;have H0:=hid h6;clear h6 h5 hb4 bx HR3;(go_upto_region 7 with fail);rw[<-hX];generalize w4.alloc (.cells #[.string xc,.int .i64 xd,.int .i64 xn,.int .i64 xe] 100)=w5 at*;clear hX;(go_wp2_with fail);have HO:=H0.out.out xc xd xn xe;have p0:=HO.1.at0;have p1:=HO.1.at1;have p2:=HO.1.at2;have p3:=HO.1.at3;exact bodyPost_ret (v:= .tuple #[.agg #[.string xc,.int .i64 xd,.int .i64 xn,.int .i64 xe],.int .i64 0]) (by simp[results,Tryz.results96,go_sem,p0,p1,p2,p3]) rfl ⟨by rw[HX.out];rfl,HO.2⟩
    ·have HX:=hid (HR2.out.trans (if_pos rfl));(go_wp2_with fail);have HO:=H0.out.out base 0 1 1;have p0:=HO.1.at0;have p1:=HO.1.at1;have p2:=HO.1.at2;have p3:=HO.1.at3;exact bodyPost_ret (v:= .tuple #[.agg #[.string base,.int .i64 0,.int .i64 1,.int .i64 1],.int .i64 0]) (by simp[results,Tryz.results96,go_sem,p0,p1,p2,p3]) rfl ⟨by rw[HX.out];rfl,HO.2⟩
section
open Go.Shelf
open Go.Lib (decDigits)
theorem longR_of{neg:Bool}{n d:Nat}(hn:n<10^140)(hd:d<10^140):longR (lowR neg n d)=false:=by
 unfold longR;simp only[Bool.or_eq_false_iff,decide_eq_false_iff_not,Nat.not_le];exact⟨Nat.lt_of_le_of_lt (Nat.div_le_self ..) hn,Nat.lt_of_le_of_lt (Nat.div_le_self ..) hd⟩
theorem p140:(10:Nat)^13≤10^140:=Nat.pow_le_pow_right (by decide) (by decide)
theorem p140b:(10:Nat)^26≤10^140:=Nat.pow_le_pow_right (by decide) (by decide)
theorem ofR_ok'{n d:Int}(hn:n.natAbs<10^13)(hd:d.natAbs<10^13)(h0:d≠0):RtOk (ofR n d)∧longR (ofR n d)=false∧(ofR n d).num ≤n.natAbs∧(ofR n d).den ≤d.natAbs:=
 ⟨lowR_ok (by omega) (DN_140 (Nat.lt_of_lt_of_le hn p140)) (DN_140 (Nat.lt_of_lt_of_le hd p140)),longR_of (Nat.lt_of_lt_of_le hn p140) (Nat.lt_of_lt_of_le hd p140),Nat.div_le_self ..,Nat.div_le_self ..⟩
theorem mulR_short{a b:Rt}(ha:longR a=false)(hb:longR b=false):mulR a b=(prodQ a b,0):=by unfold mulR;rw[ha,hb];rfl
theorem prodQ_le(a b:Rt):(prodQ a b).num ≤a.num*b.num∧(prodQ a b).den ≤a.den*b.den:=⟨Nat.div_le_self ..,Nat.div_le_self ..⟩
structure CvOk (v0 f0 f1:Rt):Prop where
 r0:RtOk v0
 r1:RtOk f0
 r2:RtOk f1
 r3:RtOk (prodQ v0 f0)
 r4:RtOk (prodQ (prodQ v0 f0) f1)
 m0:mulR v0 f0=(prodQ v0 f0,0)
 m1:mulR (prodQ v0 f0) f1=(prodQ (prodQ v0 f0) f1,0)
theorem cvOk{u a b c d:Int}(hu:u.natAbs≤1000000000000)(ha:1≤a∧a≤1000000)(hb:1≤b∧b≤1000000)(hc:1≤c∧c≤1000000)(hd:1≤d∧d≤1000000):CvOk (ofR u 1) (ofR a b) (ofR c d):=by
 have e13:(10:Nat)^13=10000000000000:=by decide
 obtain⟨q0,l0,n0,d0⟩:=ofR_ok' (n:=u) (d:=1) (by omega) (by omega) (by decide);obtain⟨q1,l1,n1,d1⟩:=ofR_ok' (n:=a) (d:=b) (by omega) (by omega) (by omega);obtain⟨q2,l2,n2,d2⟩:=ofR_ok' (n:=c) (d:=d) (by omega) (by omega) (by omega)
 have hp:longR (prodQ (ofR u 1) (ofR a b))=false:=by
  have e26:(10:Nat)^26=10^13*10^13:=by rw[<-Nat.pow_add]
  have h1:(ofR u 1).num *(ofR a b).num <10^140:=Nat.lt_of_lt_of_le (Nat.mul_lt_mul'' (by omega) (by omega)) (Nat.le_trans (Nat.le_of_eq e26.symm) p140b);have h2:(ofR u 1).den *(ofR a b).den <10^140:=Nat.lt_of_lt_of_le (Nat.mul_lt_mul'' (by omega) (by omega)) (Nat.le_trans (Nat.le_of_eq e26.symm) p140b);unfold longR;simp only[Bool.or_eq_false_iff,decide_eq_false_iff_not,Nat.not_le];exact⟨Nat.lt_of_le_of_lt (prodQ_le _ _).1 h1,Nat.lt_of_le_of_lt (prodQ_le _ _).2 h2⟩
 have q3:=prodQ_ok l0 l1 (Nat.mul_pos q0.den q1.den);exact⟨q0,q1,q2,q3,prodQ_ok hp l2 (Nat.mul_pos q3.den q2.den),mulR_short l0 l1,mulR_short hp l2⟩
theorem mtext_any(s:ByteArray)(u:Int)(hs:s.size≤140737488355328)(hu:I64 u)(w:World)(htab:TabB w.heap.size w):
  Calls Tryz.prog 22 #[.agg #[.string s,.int .i64 u]] w λe w'=>∃t:ByteArray,e= .returned (.tuple #[.string t,.int .i64 (if amtOk s u=true then 0 else 1)])∧Below w.heap.size w w':=by
 have HA:=hid (λW=>amount_any s u hs W);have HI:=hid (λW(hW:Below w.heap.size w W)=>ritoa_any u W hu ((htab.on hW).mono hW.size));obtain⟨ee,hee⟩:∃ee:Int,ee=if amtOk s u=true then 0 else 1:=⟨_,rfl⟩
 rw[<-hee];have HE:=hid hee;have HCAT:=hid (λ(x y:ByteArray)(h:x.size+y.size≤9223372036854775807)=>(show ∃u:ByteArray,u=x++y∧∀W,(Op.stringOp .add x y).run Tryz.prog W= .ok (.string u) W from⟨_,rfl,λW=>run_string_add_sum W x y h⟩))
 have HIL:=hid (show(Lib.itoa u).length ≤20 from by
  have h1:∀n:Nat,n<10^19->(decDigits n).length ≤19:=λn hn=>dec_length_le (by decide) hn
  unfold I64 at hu;unfold Lib.itoa;split
  ·have:=h1 u.natAbs (by omega);simp only[List.length_cons];omega
  ·have:=h1 u.toNat (by omega)
   omega)
 have hB:=below1 w (.cells #[.string s,.int .i64 u] 37);have bk:=Blk.new w 37 #[.string s,.int .i64 u];generalize amtOk s u=b1 at*;have hs9:s.size≤140737488355328:=hs;clear hs hu htab hee;go_enter Tryz.func22,Tryz.ntmps22
 go_wp2_with fail
 generalize w.alloc (.cells #[.string s,.int .i64 u] 37)=w0 at*;refine(HA.out _).mono ?_;rintro e w1 ⟨rfl,hb1⟩;have bk1:=bk.below hb1 bk.lt;have hB1:=HBEL_trans hB hb1;clear bk hB hb1 HA;cases b1
 ·have HX:=hid (HE.out.trans (if_neg (by decide)));go_wp2_with fail
  go_ret2;exact⟨⟨#[]⟩,by rw[HX.out];rfl,hB1⟩
 ·have HX:=hid (HE.out.trans (if_pos rfl));have c0:=bk1.at0;have c1:=bk1.at1;have bl:=bk1.lt;have HB1:=hid bk1;clear bk1;go_upto_region 3 with fail
  have HC:=hid (λ(W:World)(hW:Below w1.heap.size w1 W)=>(show W.cell? ⟨w.heap.size,0,none⟩=some (.string s)∧W.cell? ⟨w.heap.size,1,none⟩=some (.int .i64 u) from
   ⟨brd hW c0 bl,brd hW c1 bl⟩))
  clear c0 c1;obtain⟨t1,ht1,hs1⟩:=HCAT.out s ⟨#[32]⟩ (by show s.size+1≤_;omega)
  obtain⟨t2,ht2,hs2⟩:=HCAT.out t1 ⟨(Lib.itoa u).toArray⟩ (by
   (have h1:t1.size=s.size+1:=by rw[ht1,ByteArray.size_append];rfl);rw[h1];(have h2:(⟨(Lib.itoa u).toArray⟩:ByteArray).size =(Lib.itoa u).length :=by show(Lib.itoa u).toArray.size =_;simp);rw[h2];have:=HIL.out
   omega)
  clear ht1 ht2 HCAT HIL;refine wp_region_S 7 (λW=>Below w1.heap.size w1 W) (by kernel_rfl) ?_;have hS:(λW=>Below w1.heap.size w1 W) w1.drew:=(Below.refl _ _).drew
  (refine tkZ 0 ?_ hS ?_ ?_;rotate_left;intro w;go_simp;(try with_reducible rfl);simp only[nr])
  (refine tkS 1 ?_ hS ?_ ?_;rotate_left;intro w hkw;obtain⟨p0,p1⟩:=HC.out _ hkw;clear hkw;go_simp;(try with_reducible rfl);simp only[nr])
  (refine tkZ 2 ?_ hS ?_ ?_;rotate_left;intro w;go_simp;(try with_reducible rfl);simp only[nr])
  (refine tkZ 3 ?_ hS ?_ ?_;rotate_left;intro w;go_simp;(try with_reducible rfl);simp only[nr])
  (refine tkS 4 ?_ hS ?_ ?_;rotate_left;intro w hkw;obtain⟨p0,p1⟩:=HC.out _ hkw;clear hkw;go_simp;(try with_reducible rfl);simp only[nr])
  refine wS1 5 (λK hK=> ?_);go_wp2_with fail
  refine(HI.out _ (hB1.trans (Below.mono hS hB1.size))).mono ?_;rintro e w2 ⟨rfl,hb⟩;have hb6:Below w1.heap.size w1 w2:=hS.trans (hb.mono hS.size);refine hK _ _ (Or.inr hb6) ?_;clear hK K hb hS
  (try simp only[nr])
  have hS:(λW=>Below w1.heap.size w1 W) w2:=hb6;clear hb6
  (refine tkZ 6 ?_ hS ?_ ?_;rotate_left;intro w;go_simp;(try with_reducible rfl);simp only[nr])
  have HF:=hid (HBEL_trans hB1 hS);clear hS HC HI;refine wS1 7 (λK hK=> ?_);go_wp2_with fail
  refine hK _ _ (Or.inl rfl) ?_;clear hK K
  (try simp only[nr])
  refine wS1 8 (λK hK=> ?_);go_wp2_with fail
  refine hK _ _ (Or.inl rfl) ?_;clear hK K
  (try simp only[nr])
  refine wSd ?_ _;go_wp2_with fail
  go_ret2;exact⟨t2,by rw[HX.out];rfl,HF.out⟩
end
section
open Go.Shelf
structure CvB (w W:World) (cur:ByteArray) (u:Int):Prop where
 a:Blk W w.heap.size 37 #[.string cur,.int .i64 u]
 r:Blk W (w.heap.size+1) 53 #[.bool false,.string ⟨#[]⟩,.string ⟨#[]⟩]
 be:Below w.heap.size w W
theorem CvB.below{w W W':World}{cur:ByteArray}{u:Int}(h:CvB w W cur u)(hb:Below W.heap.size W W'):CvB w W' cur u:=
 ⟨h.a.below hb h.a.lt,h.r.below hb h.r.lt,HBEL_trans h.be hb⟩
theorem CvB.new(w:World)(cur:ByteArray)(u:Int):CvB w ((w.alloc (.cells #[.string cur,.int .i64 u] 37)).alloc (.cells #[.bool false,.string ⟨#[]⟩,.string ⟨#[]⟩] 53)) cur u:=by
 have h1:=Blk.new (w.alloc (.cells #[.string cur,.int .i64 u] 37)) 53 #[.bool false,.string ⟨#[]⟩,.string ⟨#[]⟩];rw[World.size_alloc]at h1;exact⟨(Blk.new w _ _).alloc _,h1,(below1 w _).alloc (by simp) _⟩
theorem CvB.out{w W:World}{cur:ByteArray}{u:Int}(h:CvB w W cur u)(x:Bool)(y z:ByteArray):
  Blk (((W.setCell ⟨w.heap.size+1,0,none⟩ (.bool x)).setCell ⟨w.heap.size+1,1,none⟩ (.string y)).setCell ⟨w.heap.size+1,2,none⟩ (.string z)) (w.heap.size+1) 53 #[.bool x,.string y,.string z]∧
  Below w.heap.size w (((W.setCell ⟨w.heap.size+1,0,none⟩ (.bool x)).setCell ⟨w.heap.size+1,1,none⟩ (.string y)).setCell ⟨w.heap.size+1,2,none⟩ (.string z)):=
 ⟨((h.r.set_ 0 _).set_ 1 _).set_ 2 _,((h.be.setCell (Nat.le_succ _) _).setCell (Nat.le_succ _) _).setCell (Nat.le_succ _) _⟩
theorem CvB.set{w W:World}{cur:ByteArray}{u:Int}(h:CvB w W cur u){p:Addr}(hp:w.heap.size+1<p.block)(v:Value):CvB w (W.setCell p v) cur u:=
 ⟨h.a.far (by omega) v,h.r.far (by omega) v,h.be.setCell (by omega) v⟩
theorem rtE_no{r:Rt}{e:Int}(h:e≠0):rtE (r,e)=rtNo:=if_neg h
def cv3(a b c:Rt):Nat->Rt
 |0=>a
 |1=>b
 | _=>c
theorem convert_any(Z:Zone)(v:Value)(l:List RateD)(base cur tc:ByteArray)(u day:Int)(w:World)(hl:Rates Z w v l)(hz:∀b,Z b->b<w.heap.size)(hbs:base.size≤140737488355328)(hcs:cur.size≤140737488355328)(hts:tc.size≤140737488355328)
  (htab:TabB w.heap.size w):
  Calls Tryz.prog 65 #[v,.string base,.agg #[.string cur,.int .i64 u],.string tc,.int .i64 day] w λe w'=>e= .returned (.tuple #[rtE (convR l base cur u tc day),.int .i64 (convR l base cur u tc day).2])∧Below w.heap.size w w':=by
 have HA:=hid (λW=>amount_any cur u hcs W);have HF1:=hid (λW(hW:Below w.heap.size w W)=>find_any Z v l base cur day W (hl.keep (Keeps.of_below hW)) (λb hb=>Nat.lt_of_lt_of_le (hz b hb) hW.size) hbs hcs);have HF2:=hid (λW(hW:Below w.heap.size w W)=>find_any Z v l base tc day W (hl.keep (Keeps.of_below hW)) (λb hb=>Nat.lt_of_lt_of_le (hz b hb) hW.size) hbs hts);have HP1:=hid (@findR_pos l base cur day);have HP2:=hid (@findR_pos l base tc day);have HU:=hid (show amtOk cur u=true->u.natAbs≤1000000000000 from λh=>by unfold amtOk at h;simp only[Bool.and_eq_true,decide_eq_true_eq]at h;omega);have HTB:=hid htab
 obtain⟨A,cap,rfl⟩:∃A cap,v= .slice A l.length cap:=by
  obtain⟨⟨A,cap,e,_⟩,_⟩:=hl;exact⟨A,cap,e⟩
 obtain⟨RR,hRR⟩:∃RR,RR=convR l base cur u tc day:=⟨_,rfl⟩;rw[<-hRR];unfold convR at hRR;have HR:=hid hRR;clear hRR;generalize amtOk cur u=b1 at*;obtain⟨X,hX⟩:∃X,X=findR l base cur day:=⟨_,rfl⟩;rw[<-hX]at HF1 HP1 HR;clear hX;obtain⟨Y,hY⟩:∃Y,Y=findR l base tc day:=⟨_,rfl⟩;rw[<-hY]at HF2 HP2 HR;clear hY hl hz hbs hcs hts htab;obtain⟨⟨xc,xd,xn,xe⟩,xer⟩:=X;obtain⟨⟨yc,yd,yn,ye⟩,yer⟩:=Y;unfold rateV at HF1 HF2;dsimp only at HF1 HF2 HP1 HP2 HR;go_enter Tryz.func65,Tryz.ntmps65
 go_wp2_with fail
 have h0:=CvB.new w cur u;generalize (w.alloc (.cells #[.string cur,.int .i64 u] 37)).alloc (.cells #[.bool false,.string ⟨#[]⟩,.string ⟨#[]⟩] 53)=w0 at*;refine(HA.out _).mono ?_;rintro e w1 ⟨rfl,hb1⟩;replace h0:=h0.below hb1;clear hb1 HA;cases b1
 ·have HX:=hid (HR.out.trans (if_pos rfl));have r0:=h0.r.at0;have r1:=h0.r.at1;have r2:=h0.r.at2;have g0:=h0.r.frozen 0;have g1:=h0.r.frozen 1;have g2:=h0.r.frozen 2;have gl:=h0.r.lt;have H0:=hid h0;clear h0;go_wp2_with fail
  have HO:=H0.out.out false ⟨#[]⟩ ⟨#[]⟩;have r0:=HO.1.at0;have r1:=HO.1.at1;have r2:=HO.1.at2;exact bodyPost_ret (v:= .tuple #[.agg #[.bool false,.string ⟨#[]⟩,.string ⟨#[]⟩],.int .i64 1]) (by simp[results,Tryz.results65,go_sem,r0,r1,r2]) rfl ⟨by rw[HX.out];rfl,HO.2⟩
 ·have HR1:=hid (HR.out.trans (if_neg (by decide)));have HU1:=hid (HU.out rfl);clear HR HU;have a0:=h0.a.at0;have H0:=hid h0;clear h0;go_wp2_with fail
  refine(HF1.out _ H0.out.be).mono ?_;rintro e w2 ⟨rfl,hb2⟩;have h0:=H0.out.below hb2;clear H0 a0 hb2 HF1;have h1:=h0.below (below1 w2 (.cells #[.string xc,.int .i64 xd,.int .i64 xn,.int .i64 xe] 100));have bx:=Blk.new w2 100 #[.string xc,.int .i64 xd,.int .i64 xn,.int .i64 xe];obtain⟨XB,hXB⟩:∃XB,XB=w2.heap.size:=⟨_,rfl⟩;have hXw:w.heap.size+1<XB:=by rw[hXB];exact h0.r.lt
  rw[<-hXB]at bx;by_cases hxe:xer=0
  ·subst hxe;have HR2:=hid (HR1.out.trans (if_neg (by decide)));have HPX:=hid (HP1.out rfl);clear HR1 HP1;have hr1:=h1.r.lt;have H1:=hid (And.intro h1 bx);clear h0 h1 bx;(go_upto_region 6 with fail);rw[<-hXB];clear hXB;generalize w2.alloc (.cells #[.string xc,.int .i64 xd,.int .i64 xn,.int .i64 xe] 100)=w3 at*;(go_wp2_with fail);refine(HF2.out _ H1.out.1.be).mono ?_;rintro e w4 ⟨rfl,hb4⟩;have h4:=H1.out.1.below hb4;have bx4:=H1.out.2.below hb4 H1.out.2.lt;clear H1 hb4 HF2 hr1;have h5:=h4.below (below1 w4 (.cells #[.string yc,.int .i64 yd,.int .i64 yn,.int .i64 ye] 100));have by5:=Blk.new w4 100 #[.string yc,.int .i64 yd,.int .i64 yn,.int .i64 ye];have bx5:=bx4.below (below1 w4 (.cells #[.string yc,.int .i64 yd,.int .i64 yn,.int .i64 ye] 100)) bx4.lt;obtain⟨YB,hYB⟩:∃YB,YB=w4.heap.size:=⟨_,rfl⟩;(have hYw:XB<YB:=by rw[hYB];exact bx4.lt);rw[<-hYB]at by5;by_cases hye:yer=0
   ·subst hye;have HR3:=hid (HR2.out.trans (if_neg (by decide)));have HPY:=hid (HP2.out rfl);clear HR2 HP2;have a1:=h5.a.at1;have al:=h5.a.lt;have H5:=hid (And.intro h5 (And.intro bx5 by5));clear h4 h5 bx4 bx5 by5;(go_upto_region 9 with fail);rw[<-hYB];clear hYB;generalize w4.alloc (.cells #[.string yc,.int .i64 yd,.int .i64 yn,.int .i64 ye] 100)=w5 at*;have HOF:=hid (λW(hW:Below w.heap.size w W)=>of_any u 1 (by have:=HU1.out;unfold I64;omega) (by unfold I64;omega) (by decide) W ((HTB.out.on hW).mono hW.size));have HOF0:=hid (λW(hW:Below w.heap.size w W)=>of_any xn xe (by have:=HPX.out;unfold I64;omega) (by have:=HPX.out;unfold I64;omega) (by have:=HPX.out;omega) W ((HTB.out.on hW).mono hW.size));have HOF1:=hid (λW(hW:Below w.heap.size w W)=>of_any ye yn (by have:=HPY.out;unfold I64;omega) (by have:=HPY.out;unfold I64;omega) (by have:=HPY.out;omega) W ((HTB.out.on hW).mono hW.size));have hcv:=cvOk HU1.out ⟨HPX.out.1,HPX.out.2.1⟩ HPX.out.2.2 HPY.out.2.2 ⟨HPY.out.1,HPY.out.2.1⟩;generalize ofR u 1=z0 at*;generalize ofR xn xe=fa at*;generalize ofR ye yn=fb at*;have HML0:=hid (λW(hW:Below w.heap.size w W)=>rmul_any z0 fa hcv.r0 hcv.r1 W ((HTB.out.on hW).mono hW.size));have HML1:=hid (λW(hW:Below w.heap.size w W)=>rmul_any (prodQ z0 fa) fb hcv.r3 hcv.r2 W ((HTB.out.on hW).mono hW.size));rw[hcv.m0]at HML0;rw[hcv.m1]at HML1;(have eml:∀r:Rt,rtE (r,0)=rtV r:=λr=>rfl);simp only[eml]at HML0 HML1;unfold rtV at HML0 HML1;generalize prodQ z0 fa=z1 at*;generalize prodQ z1 fb=z2 at*;clear hcv eml;(go_wp2_with fail);refine(HOF.out _ H5.out.1.be).mono ?_;rintro e w6 ⟨rfl,hb6⟩;clear a1 al HOF;have h6:=H5.out.1.below hb6;have bx6:=H5.out.2.1.below hb6 H5.out.2.1.lt;have by6:=H5.out.2.2.below hb6 H5.out.2.2.lt;clear H5 hb6;unfold rtV;have h7:=h6.below (below1 w6 (.cells #[.bool z0.neg,.string (dstr z0.num),.string (dstr z0.den)] 53));have bv:=Blk.new w6 53 #[.bool z0.neg,.string (dstr z0.num),.string (dstr z0.den)];have bx7:=bx6.below (below1 w6 (.cells #[.bool z0.neg,.string (dstr z0.num),.string (dstr z0.den)] 53)) bx6.lt;have by7:=by6.below (below1 w6 (.cells #[.bool z0.neg,.string (dstr z0.num),.string (dstr z0.den)] 53)) by6.lt;obtain⟨VB,hVB⟩:∃VB,VB=w6.heap.size:=⟨_,rfl⟩;(have hVw:w.heap.size+1<VB:=by rw[hVB];have:=by6.lt;omega);rw[<-hVB]at bv;have x2:=bx7.at2;have x3:=bx7.at3;have xl:=bx7.lt;have y2:=by7.at2;have y3:=by7.at3;have yl:=by7.lt;have H7:=hid (And.intro h7 bv);clear h6 h7 bx6 by6 bx7 by7 bv;(go_upto_region 10 with fail);rw[<-hVB];clear hVB;generalize w6.alloc (.cells #[.bool z0.neg,.string (dstr z0.num),.string (dstr z0.den)] 53)=w7 at*;have h8:=H7.out.1.below (below1 w7 (.cells #[.int .i64 xn,.int .i64 xe,.int .i64 ye,.int .i64 yn] 154));have bv8:=H7.out.2.below (below1 w7 (.cells #[.int .i64 xn,.int .i64 xe,.int .i64 ye,.int .i64 yn] 154)) H7.out.2.lt;have bs8:=Blk.new w7 154 #[.int .i64 xn,.int .i64 xe,.int .i64 ye,.int .i64 yn];obtain⟨SB,hSB⟩:∃SB,SB=w7.heap.size:=⟨_,rfl⟩;(have hSV:SB≠VB:=by rw[hSB];have:=H7.out.2.lt;omega);rw[<-hSB]at bs8;have H8:=hid (And.intro h8 (And.intro bv8 bs8));clear h8 bv8 bs8 H7;(go_wp2_with fail);rw[<-hSB];clear hSB x2 x3 xl y2 y3 yl;generalize w7.alloc (.cells #[.int .i64 xn,.int .i64 xe,.int .i64 ye,.int .i64 yn] 154)=w8 at*;go_loopw[68] (λiv wr=>∃(k:Nat),k≤2∧iv= .int .i64 k∧CvB w wr cur u∧Blk wr VB 53 #[.bool (cv3 z0 z1 z2 k).neg,.string (dstr (cv3 z0 z1 z2 k).num),.string (dstr (cv3 z0 z1 z2 k).den)]∧Blk wr SB 154 #[.int .i64 xn,.int .i64 xe,.int .i64 ye,.int .i64 yn]) (λiv _=>2-(intOf iv).toNat);case atStart=>exact⟨0,by decide,rfl,H8.out.1,H8.out.2.1,H8.out.2.2⟩
    case round=>
     obtain⟨k,hk,rfl,h,hV,hS⟩:=hrel;clear H8;rcases(by omega:k=0∨k=1∨k=2)with rfl|rfl|rfl
     ·simp only[cv3]at hV;have hfv:=hS.at0;have hfw:=hS.at1;have hsl:=hS.lt;have HI:=hid (And.intro h (And.intro hV hS));clear h hV hS;(go_wp2_with fail);have h:=HI.out.1.below (below1 wr (.cells #[.int .i64 xn,.int .i64 xe] 154));have hV:=HI.out.2.1.below (below1 wr (.cells #[.int .i64 xn,.int .i64 xe] 154)) HI.out.2.1.lt;have hS:=HI.out.2.2.below (below1 wr (.cells #[.int .i64 xn,.int .i64 xe] 154)) HI.out.2.2.lt;clear HI hfv hfw hsl;generalize wr.alloc (.cells #[.int .i64 xn,.int .i64 xe] 154)=u1 at*;refine(HOF0.out _ h.be).mono ?_;rintro e u2 ⟨rfl,hc2⟩;replace h:=h.below hc2;replace hV:=hV.below hc2 hV.lt;replace hS:=hS.below hc2 hS.lt;clear hc2;unfold rtV;have hF:=Blk.new u2 53 #[.bool fa.neg,.string (dstr fa.num),.string (dstr fa.den)];obtain⟨FB,hFB⟩:∃FB,FB=u2.heap.size:=⟨_,rfl⟩;rw[<-hFB]at hF;replace h:=h.below (below1 u2 (.cells #[.bool fa.neg,.string (dstr fa.num),.string (dstr fa.den)] 53));(have hVF:VB<FB:=by rw[hFB];exact hV.lt);replace hV:=hV.below (below1 u2 (.cells #[.bool fa.neg,.string (dstr fa.num),.string (dstr fa.den)] 53)) hV.lt;replace hS:=hS.below (below1 u2 (.cells #[.bool fa.neg,.string (dstr fa.num),.string (dstr fa.den)] 53)) hS.lt;have v0:=hV.at0;have v1:=hV.at1;have v2:=hV.at2;have f0:=hF.at0;have f1:=hF.at1;have f2:=hF.at2;have fl:=hF.lt;have vl:=hV.lt;have HI:=hid (And.intro h (And.intro hV hS));clear h hV hS hF;(go_upto_region 14 with fail);rw[<-hFB];clear hFB;generalize u2.alloc (.cells #[.bool fa.neg,.string (dstr fa.num),.string (dstr fa.den)] 53)=u3 at*;(go_wp2_with fail);refine(HML0.out _ HI.out.1.be).mono ?_;rintro e u4 ⟨rfl,hc4⟩;have h:=HI.out.1.below hc4;have hV:=HI.out.2.1.below hc4 HI.out.2.1.lt;have hS:=HI.out.2.2.below hc4 HI.out.2.2.lt;clear HI hc4 v0 v1 v2 f0 f1 f2 fl vl;have v0:=hV.at0;have v1:=hV.at1;have v2:=hV.at2;have g0:=hV.frozen 0;have g1:=hV.frozen 1;have g2:=hV.frozen 2;have vl:=hV.lt;have HN:=hid (And.intro (((h.set (p:=⟨VB,0,none⟩) hVw (.bool z1.neg)).set (p:=⟨VB,1,none⟩) hVw (.string (dstr z1.num))).set (p:=⟨VB,2,none⟩) hVw (.string (dstr z1.den))) (And.intro (((hV.set_ 0 (.bool z1.neg)).set_ 1 (.string (dstr z1.num))).set_ 2 (.string (dstr z1.den))) (((hS.far (p:=⟨VB,0,none⟩) hSV (.bool z1.neg)).far (p:=⟨VB,1,none⟩) hSV (.string (dstr z1.num))).far (p:=⟨VB,2,none⟩) hSV (.string (dstr z1.den)))));clear h hV hS;go_wp2;go_roundw;(case rel=>exact⟨0+1,by decide,by go_num,HN.out.1,HN.out.2.1,HN.out.2.2⟩);case measure=>simp[intOf]
     ·simp only[cv3]at hV;have hfv:=hS.at2;have hfw:=hS.at3;have hsl:=hS.lt;have HI:=hid (And.intro h (And.intro hV hS));clear h hV hS;(go_wp2_with fail);have h:=HI.out.1.below (below1 wr (.cells #[.int .i64 ye,.int .i64 yn] 154));have hV:=HI.out.2.1.below (below1 wr (.cells #[.int .i64 ye,.int .i64 yn] 154)) HI.out.2.1.lt;have hS:=HI.out.2.2.below (below1 wr (.cells #[.int .i64 ye,.int .i64 yn] 154)) HI.out.2.2.lt;clear HI hfv hfw hsl;generalize wr.alloc (.cells #[.int .i64 ye,.int .i64 yn] 154)=u1 at*;refine(HOF1.out _ h.be).mono ?_;rintro e u2 ⟨rfl,hc2⟩;replace h:=h.below hc2;replace hV:=hV.below hc2 hV.lt;replace hS:=hS.below hc2 hS.lt;clear hc2;unfold rtV;have hF:=Blk.new u2 53 #[.bool fb.neg,.string (dstr fb.num),.string (dstr fb.den)];obtain⟨FB,hFB⟩:∃FB,FB=u2.heap.size:=⟨_,rfl⟩;rw[<-hFB]at hF;replace h:=h.below (below1 u2 (.cells #[.bool fb.neg,.string (dstr fb.num),.string (dstr fb.den)] 53));(have hVF:VB<FB:=by rw[hFB];exact hV.lt);replace hV:=hV.below (below1 u2 (.cells #[.bool fb.neg,.string (dstr fb.num),.string (dstr fb.den)] 53)) hV.lt;replace hS:=hS.below (below1 u2 (.cells #[.bool fb.neg,.string (dstr fb.num),.string (dstr fb.den)] 53)) hS.lt;have v0:=hV.at0;have v1:=hV.at1;have v2:=hV.at2;have f0:=hF.at0;have f1:=hF.at1;have f2:=hF.at2;have fl:=hF.lt;have vl:=hV.lt;have HI:=hid (And.intro h (And.intro hV hS));clear h hV hS hF;(go_upto_region 14 with fail);rw[<-hFB];clear hFB;generalize u2.alloc (.cells #[.bool fb.neg,.string (dstr fb.num),.string (dstr fb.den)] 53)=u3 at*;(go_wp2_with fail);refine(HML1.out _ HI.out.1.be).mono ?_;rintro e u4 ⟨rfl,hc4⟩;have h:=HI.out.1.below hc4;have hV:=HI.out.2.1.below hc4 HI.out.2.1.lt;have hS:=HI.out.2.2.below hc4 HI.out.2.2.lt;clear HI hc4 v0 v1 v2 f0 f1 f2 fl vl;have v0:=hV.at0;have v1:=hV.at1;have v2:=hV.at2;have g0:=hV.frozen 0;have g1:=hV.frozen 1;have g2:=hV.frozen 2;have vl:=hV.lt;have HN:=hid (And.intro (((h.set (p:=⟨VB,0,none⟩) hVw (.bool z2.neg)).set (p:=⟨VB,1,none⟩) hVw (.string (dstr z2.num))).set (p:=⟨VB,2,none⟩) hVw (.string (dstr z2.den))) (And.intro (((hV.set_ 0 (.bool z2.neg)).set_ 1 (.string (dstr z2.num))).set_ 2 (.string (dstr z2.den))) (((hS.far (p:=⟨VB,0,none⟩) hSV (.bool z2.neg)).far (p:=⟨VB,1,none⟩) hSV (.string (dstr z2.num))).far (p:=⟨VB,2,none⟩) hSV (.string (dstr z2.den)))));clear h hV hS;go_wp2;go_roundw;(case rel=>exact⟨1+1,by decide,by go_num,HN.out.1,HN.out.2.1,HN.out.2.2⟩);case measure=>simp[intOf]
     ·simp only[cv3]at hV;have v0:=hV.at0;have v1:=hV.at1;have v2:=hV.at2;have vl:=hV.lt;have r0:=h.r.at0;have r1:=h.r.at1;have r2:=h.r.at2;have g0:=h.r.frozen 0;have g1:=h.r.frozen 1;have g2:=h.r.frozen 2;have gl:=h.r.lt;have H:=hid h;clear h hV hS;go_wp2;have HO:=H.out.out z2.neg (dstr z2.num) (dstr z2.den);have r0:=HO.1.at0;have r1:=HO.1.at1;have r2:=HO.1.at2;exact bodyPost_ret (v:= .tuple #[.agg #[.bool z2.neg,.string (dstr z2.num),.string (dstr z2.den)],.int .i64 0]) (by simp[results,Tryz.results65,go_sem,r0,r1,r2]) rfl ⟨by rw[HR3.out];rfl,HO.2⟩
   ·have HX:=hid (HR2.out.trans (if_pos hye));have r0:=h5.r.at0;have r1:=h5.r.at1;have r2:=h5.r.at2;have g0:=h5.r.frozen 0;have g1:=h5.r.frozen 1;have g2:=h5.r.frozen 2;have gl:=h5.r.lt;have H0:=hid h5;(have en:(yer !=0)=true:=by simpa using hye);(go_wp2_with fail);have HO:=H0.out.out false ⟨#[]⟩ ⟨#[]⟩;have r0:=HO.1.at0;have r1:=HO.1.at1;have r2:=HO.1.at2;exact bodyPost_ret (v:= .tuple #[.agg #[.bool false,.string ⟨#[]⟩,.string ⟨#[]⟩],.int .i64 yer]) (by simp[results,Tryz.results65,go_sem,r0,r1,r2]) rfl ⟨by rw[HX.out,rtE_no hye];rfl,HO.2⟩
  ·have HX:=hid (HR1.out.trans (if_pos hxe));have r0:=h1.r.at0;have r1:=h1.r.at1;have r2:=h1.r.at2;have g0:=h1.r.frozen 0;have g1:=h1.r.frozen 1;have g2:=h1.r.frozen 2;have gl:=h1.r.lt;have H0:=hid h1;(have en:(xer !=0)=true:=by simpa using hxe);(go_wp2_with fail);have HO:=H0.out.out false ⟨#[]⟩ ⟨#[]⟩;have r0:=HO.1.at0;have r1:=HO.1.at1;have r2:=HO.1.at2;exact bodyPost_ret (v:= .tuple #[.agg #[.bool false,.string ⟨#[]⟩,.string ⟨#[]⟩],.int .i64 xer]) (by simp[results,Tryz.results65,go_sem,r0,r1,r2]) rfl ⟨by rw[HX.out,rtE_no hxe];rfl,HO.2⟩
end
end Go.Proofs.YtimmfbnjndndlaaGreatDoor
