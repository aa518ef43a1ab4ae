/- Texts RG RH RI2 RJ PW RN. -/
import Derived.Test.YtimmfbnjndndlaaGreatDoorM44
import Derived.Test.YtimmfbnjndndlaaGreatDoorM39
set_option linter.all false
namespace Go.Proofs.YtimmfbnjndndlaaGreatDoor
open Go.RowKit
set_option maxHeartbeats 8000000
set_option maxRecDepth 100000
section
open Go.Shelf
theorem cntOk_of_check{t:TarD}{l:List ProdD}(h:checkP t l=0):CntOk l:=by
 obtain⟨_,_,⟨o,ho⟩,_⟩:=checkP_ok h;intro p hp c hc;have he:=ho.even;rw[List.any_eq_false]at he;have h1:=he p hp;unfold oddP at h1;simp only[Bool.or_eq_true,Bool.not_eq_true',List.any_eq_true,not_or,not_exists,not_and]at h1;have h2:=h1.2 c hc;unfold cntOk at h2;simpa using h2
theorem value_res(t:TarD)(l:List ProdD)(r:List RateD)(base id:ByteArray)(day:Int):ResOk (valueP t l r base id day):=by
 unfold valueP;split
 ·rename_i h;exact λh2=>absurd h2 h
 ·rename_i h;have h:openE t l r base id day=0:=by simpa using h
  exact resOk_tot (cntOk_of_check (openE_zero h).1) own_res (l.length+1) id
theorem control_res(t:TarD)(l:List ProdD)(r:List RateD)(base id:ByteArray)(day:Int):ResOk (controlP t l r base id day):=by
 unfold controlP;split
 ·rename_i h;exact λh2=>absurd h2 h
 ·rename_i h;have h:openE t l r base id day=0:=by simpa using h
  have hc:=cntOk_of_check (openE_zero h).1;split
  ·rename_i h2;exact λh3=>absurd h3 h2
  ·refine resOk_tot hc (λp _=> ?_) (l.length+1) id;unfold ctlP;split
   ·exact resOk_tot hc own_res (l.length+1) p.id
   ·exact λ_=>rt0_ok
theorem share_floor{t:TarD}{l:List ProdD}{r:List RateD}{base id:ByteArray}{day:Int}(h1:(controlP t l r base id day).2=0)(h2:(valueP t l r base id day).1.num ≠0)(h3:(mulR (ofR 100 1) (controlP t l r base id day).1).2=0)
  (h4:(divR (mulR (ofR 100 1) (controlP t l r base id day).1).1 (valueP t l r base id day).1).2=0):
  (divR (mulR (ofR 100 1) (controlP t l r base id day).1).1 (valueP t l r base id day).1).1.neg =false∧
  (divR (mulR (ofR 100 1) (controlP t l r base id day).1).1 (valueP t l r base id day).1).1.num / (divR (mulR (ofR 100 1) (controlP t l r base id day).1).1 (valueP t l r base id day).1).1.den ≤100∧
  floorR (divR (mulR (ofR 100 1) (controlP t l r base id day).1).1 (valueP t l r base id day).1).1=((((divR (mulR (ofR 100 1) (controlP t l r base id day).1).1 (valueP t l r base id day).1).1.num / (divR (mulR (ofR 100 1) (controlP t l r base id day).1).1 (valueP t l r base id day).1).1.den :Nat):Int),0):=by
 obtain⟨p,hp,hc⟩:=control_ok h1;have hdv:=hc.lowV.den;have hdc:=hc.low.den;have hv0:0≤(valueP t l r base id day).1.toQ :=Rat.le_trans hc.pos hc.le;obtain⟨ml,mq⟩:=mulR_val h3 (ofR_den (by decide)) hdc;rw[ofR_q]at mq;obtain⟨dl,-,dq⟩:=divR_ok ml hc.lowV h4;rw[mq]at dq;generalize hqq:(divR (mulR (ofR 100 1) (controlP t l r base id day).1).1 (valueP t l r base id day).1).1=q at*;have hv:0<(valueP t l r base id day).1.toQ :=Rat.lt_of_le_of_ne hv0 λe=>h2 (hc.lowV.eq_zero.1 e.symm)
 have hle:=hc.le;have hpos:=hc.pos;generalize hV:(valueP t l r base id day).1.toQ =V at*;generalize hC:(controlP t l r base id day).1.toQ =C at*;have h100:(0:Rat)≤((100:Int):Rat):=by decide
 have hq0:0≤q.toQ:=by
  refine Rat.le_of_mul_le_mul_right (c:=V) ?_ hv;rw[Rat.zero_mul,dq];exact Rat.mul_nonneg h100 hpos
 have hq1:q.toQ≤((100:Int):Rat):=by
  refine Rat.le_of_mul_le_mul_right (c:=V) ?_ hv;rw[dq];exact Rat.mul_le_mul_of_nonneg_left hle h100
 have hneg:=dl.nonneg.1 hq0;obtain⟨f1,f2⟩:=floor_le dl hneg;have hn100:((q.num / q.den:Nat):Int)≤100:=Rat.intCast_le_intCast.1 (Rat.le_trans f1 hq1);refine⟨hneg,by omega,?_⟩;unfold floorR;rw[hneg];simp only[Bool.false_eq_true,if_false];rw[if_pos ⟨Int.le_trans (by decide) (Int.natCast_nonneg _),Int.le_trans hn100 (by decide)⟩]
theorem control_value{t:TarD}{l:List ProdD}{r:List RateD}{base id:ByteArray}{day:Int}(h:(controlP t l r base id day).2=0):(valueP t l r base id day).2=0:=by
 obtain⟨p,hp,hc⟩:=control_ok h;exact hc.val
theorem share_any(Z:Zone)(vd vl v vr:Value)(t:TarD)(l:List ProdD)(r:List RateD)(base id:ByteArray)(day:Int)(w:World)(ht:TarR Z w vd vl t)(h:Prods Z w v l)(hr:Rates Z w vr r)(hz:∀b,Z b->b<w.heap.size)(hf:t.fine)(hbs:base.size≤140737488355328)(htab:TabB w.heap.size w):
  Calls Tryz.prog 11 #[.agg #[vd,vl],v,vr,.string base,.string id,.int .i64 day] w λe w'=>e= .returned (.tuple #[.int .i64 (shareP t l r base id day).1,.int .i64 (shareP t l r base id day).2])∧Below w.heap.size w w':=by
 have HCT:=hid (λW(hW:Below w.heap.size w W)=>controlled_any Z vd vl v vr t l r base id day W (ht.keep (Keeps.of_below hW)) (h.keep (Keeps.of_below hW)) (hr.keep (Keeps.of_below hW)) (λb hb=>Nat.lt_of_lt_of_le (hz b hb) hW.size) hf hbs ((htab.on hW).mono hW.size));have HVL:=hid (λW(hW:Below w.heap.size w W)=>value_any Z vd vl v vr t l r base id day W (ht.keep (Keeps.of_below hW)) (h.keep (Keeps.of_below hW)) (hr.keep (Keeps.of_below hW)) (λb hb=>Nat.lt_of_lt_of_le (hz b hb) hW.size) hf hbs ((htab.on hW).mono hW.size));have HTB:=hid (λW(hW:Below w.heap.size w W)=>((htab.on hW).mono hW.size:TabB W.heap.size W));obtain⟨A,cap,hv,-,-⟩:=h.form;obtain⟨A2,cap2,hvl⟩:∃A2 cap2,vl= .slice A2 t.lines.length cap2:=by obtain⟨⟨A2,cap2,e,_⟩⟩:=ht.l;exact⟨A2,cap2,e⟩
 obtain⟨A3,cap3,hvd⟩:∃A3 cap3,vd= .slice A3 t.dom.length cap3:=by obtain⟨⟨A3,cap3,e,_⟩,_⟩:=ht.d;exact⟨A3,cap3,e⟩
 obtain⟨A4,cap4,hvr⟩:∃A4 cap4,vr= .slice A4 r.length cap4:=by obtain⟨⟨A4,cap4,e,_⟩,_⟩:=hr;exact⟨A4,cap4,e⟩
 subst hv hvl hvd hvr;obtain⟨RR,hRR⟩:∃RR,RR=shareP t l r base id day:=⟨_,rfl⟩;rw[<-hRR];unfold shareP at hRR;have HR:=hid hRR;have HCR:=hid (control_res t l r base id day);have HVR:=hid (value_res t l r base id day);have HCV:=hid (@control_value t l r base id day);have HFL:=hid (@share_floor t l r base id day);clear ht h hr hz hf hbs htab hRR;generalize controlP t l r base id day=C at*;generalize valueP t l r base id day=V at*;generalize t.dom.length=dl at*;generalize t.lines.length=nl at*;generalize r.length=rl at*;generalize hll:l.length=ll at*;have ba:=Blk.new w 27 #[.slice A3 dl cap3,.slice A2 nl cap2];have hb0:=below1 w (.cells #[.slice A3 dl cap3,.slice A2 nl cap2] 27);go_enter Tryz.func11,Tryz.ntmps11
 go_upto_region 1 with fail
 generalize w.alloc (.cells #[.slice A3 dl cap3,.slice A2 nl cap2] 27)=w0 at*;have a0:=ba.at0;have a1:=ba.at1;have H0:=hid (And.intro hb0 ba);clear hb0 ba;go_wp2_with fail
 refine(HCT.out w0 H0.out.1).mono ?_;obtain⟨ca,cb,cc,hCE⟩:=rtE_tri C;rw[hCE];rintro e w1 ⟨rfl,hb1⟩;have HCE:=hid hCE;have hX:=Blk.new w1 53 #[.bool ca,.string cb,.string cc];have hbe:=(HBEL_trans H0.out.1 hb1);have hbe2:=hbe.alloc hbe.size (.cells #[.bool ca,.string cb,.string cc] 53);have ba:=(H0.out.2.below hb1 H0.out.2.lt).alloc (.cells #[.bool ca,.string cb,.string cc] 53);have hbew:=hbe.size;clear hCE hb1 H0 a0 a1 HCT hbe;go_upto_region 2 with fail
 obtain⟨CB,hCB⟩:∃CB,CB=w1.heap.size:=⟨_,rfl⟩;have hCBw:w.heap.size≤CB:=by rw[hCB];exact hbew
 rw[<-hCB]at hX⊢;generalize w1.alloc (.cells #[.bool ca,.string cb,.string cc] 53)=w2 at*;clear hCB;obtain⟨Cr,Ce⟩:=C;dsimp only at*;by_cases hce:Ce=0
 ·subst hce;have HR1:=hid (HR.out.trans (if_neg (by decide)));have a0:=ba.at0;have a1:=ba.at1;have H2:=hid (And.intro hbe2 (And.intro ba hX));have hve:V.2=0:=HCV.out (by first|exact rfl|trivial);obtain⟨Vr,Ve⟩:=V;dsimp only at hve;subst hve;clear hbe2 ba hX HR HCV;go_wp2_with fail
  refine(HVL.out w2 H2.out.1).mono ?_;rw[show rtE (Vr,0)=rtV Vr from rfl];rintro e w3 ⟨rfl,hb3⟩;have HC0:=hid (show rtV Cr= .agg #[.bool ca,.string cb,.string cc] from HCE.out);have hcr:RtOk Cr:=HCR.out rfl;have hvr:RtOk Vr:=HVR.out rfl;have HOF:=hid (of_any 100 1 (by unfold I64;omega) (by unfold I64;omega) (by decide));have hor:=(ofR_ok' (n:=100) (d:=1) (by decide) (by decide) (by decide)).1;have HML:=hid (rmul_any (ofR 100 1) Cr hor hcr);have HMO:=hid (mulR_rtok hor hcr);have HDV:=hid (λ(h:RtOk (mulR (ofR 100 1) Cr).1)=>rdiv_any (mulR (ofR 100 1) Cr).1 Vr h hvr);have HDO:=hid (λ(h:RtOk (mulR (ofR 100 1) Cr).1)=>divR_rtok h hvr);have s0:=is0 Vr.num;have hX3:=Blk.new w3 53 #[.bool Vr.neg,.string (dstr Vr.num),.string (dstr Vr.den)];have hbe:=HBEL_trans H2.out.1 hb3;have hC3l:=(H2.out.2.2.below hb3 H2.out.2.2.lt).lt;have hbe4:=hbe.alloc hbe.size (.cells #[.bool Vr.neg,.string (dstr Vr.num),.string (dstr Vr.den)] 53);have hC4:=(H2.out.2.2.below hb3 H2.out.2.2.lt).alloc (.cells #[.bool Vr.neg,.string (dstr Vr.num),.string (dstr Vr.den)] 53);have HVV:=hid (show rtV Vr= .agg #[.bool Vr.neg,.string (dstr Vr.num),.string (dstr Vr.den)] from rfl);unfold rtV;obtain⟨va,hva⟩:∃z,z=Vr.neg:=⟨_,rfl⟩;obtain⟨vb,hvb⟩:∃z,z=dstr Vr.num:=⟨_,rfl⟩;obtain⟨vc,hvc⟩:∃z,z=dstr Vr.den:=⟨_,rfl⟩;rw[<-hvb]at s0;rw[<-hva,<-hvb,<-hvc]at hX3 hbe4 hC4 HVV⊢;clear hva hvb hvc hbe hb3 H2 a0 a1 HVL hcr hvr hor HCE HCR HVR;go_upto_region 5 with fail
  obtain⟨VB,hVB⟩:∃VB,VB=w3.heap.size:=⟨_,rfl⟩;have hVC:VB≠CB:=by rw[hVB];omega
  rw[<-hVB]at hX3⊢;generalize w3.alloc (.cells #[.bool va,.string vb,.string vc] 53)=w4 at*;clear hVB;have v1:=hX3.at1;by_cases hz:Vr.num=0
  ·have HR2:=hid (HR1.out.trans (if_pos hz));rw[decide_eq_true hz]at s0;(go_wp2_with fail);go_ret2;exact⟨by rw[HR2.out];rfl,hbe4⟩
  ·have HR2:=hid (HR1.out.trans (if_neg hz));rw[decide_eq_false hz]at s0;have H4:=hid (And.intro hbe4 (And.intro hC4 hX3));have HNZ:=hid hz;clear hbe4 hC4 hX3 HR1;(go_wp2_with fail);generalize ofR 100 1=O at*;have HOF2:=hid (HOF.out w4 (HTB.out w4 H4.out.1));refine HOF2.out.mono ?_;have HML2:=hid (λW hW=>HML.out W hW);obtain⟨oa,ob,oc,hO⟩:∃x y z,rtV O= .agg #[.bool x,.string y,.string z]:=⟨_,_,_,rfl⟩;rw[hO,HC0.out]at HML2;rw[hO];rintro e w5 ⟨rfl,hb5⟩;have hbe5:=HBEL_trans H4.out.1 hb5;have hbe6:=hbe5.alloc hbe5.size (.cells #[.bool oa,.string ob,.string oc] 53);have hC6:=(H4.out.2.1.below hb5 H4.out.2.1.lt).alloc (.cells #[.bool oa,.string ob,.string oc] 53);have hV6:=(H4.out.2.2.below hb5 H4.out.2.2.lt).alloc (.cells #[.bool oa,.string ob,.string oc] 53);have hO6:=Blk.new w5 53 #[.bool oa,.string ob,.string oc];clear hb5 hbe5 H4 HOF HOF2 HML hO v1 s0;(go_upto_region 8 with fail);obtain⟨OB,hOB⟩:∃OB,OB=w5.heap.size:=⟨_,rfl⟩;rw[<-hOB]at hO6⊢;generalize w5.alloc (.cells #[.bool oa,.string ob,.string oc] 53)=w6 at*;clear hOB;have q0:=hO6.at0;have q1:=hO6.at1;have q2:=hO6.at2;have ql:=hO6.lt;have c0:=hC6.at0;have c1:=hC6.at1;have c2:=hC6.at2;have cl:=hC6.lt;have H6:=hid (And.intro hbe6 (And.intro hC6 hV6));clear hbe6 hC6 hV6 hO6;generalize mulR O Cr=M at*;(go_wp2_with fail);refine(HML2.out w6 (HTB.out w6 H6.out.1)).mono ?_;obtain⟨ma,mb,mc,hM⟩:=rtE_tri M;rw[hM];rintro e w7 ⟨rfl,hb7⟩;have HM:=hid hM;have hC7:=H6.out.2.1.below hb7 H6.out.2.1.lt;have H7:=hid (And.intro (HBEL_trans H6.out.1 hb7) (And.intro hC7 (H6.out.2.2.below hb7 H6.out.2.2.lt)));have c0:=hC7.at0;have c1:=hC7.at1;have c2:=hC7.at2;have f0:=hC7.frozen 0;have f1:=hC7.frozen 1;have f2:=hC7.frozen 2;have cl:=hC7.lt;clear hC7 hb7 H6 HML2 hM q0 q1 q2 ql;(go_upto_region 9 with fail);have hbe8:=((H7.out.1.setCell (p:=⟨CB,0,none⟩) hCBw (.bool ma)).setCell (p:=⟨CB,1,none⟩) hCBw (.string mb)).setCell (p:=⟨CB,2,none⟩) hCBw (.string mc);have hC8:Blk (((w7.setCell ⟨CB,0,none⟩ (.bool ma)).setCell ⟨CB,1,none⟩ (.string mb)).setCell ⟨CB,2,none⟩ (.string mc)) CB 53 #[.bool ma,.string mb,.string mc]:=((H7.out.2.1.set_ 0 (.bool ma)).set_ 1 (.string mb)).set_ 2 (.string mc);have hV8:=((H7.out.2.2.far (p:=⟨CB,0,none⟩) hVC (.bool ma)).far (p:=⟨CB,1,none⟩) hVC (.string mb)).far (p:=⟨CB,2,none⟩) hVC (.string mc);clear c0 c1 c2 f0 f1 f2 cl H7;generalize ((w7.setCell ⟨CB,0,none⟩ (.bool ma)).setCell ⟨CB,1,none⟩ (.string mb)).setCell ⟨CB,2,none⟩ (.string mc)=w8 at*;obtain⟨Mr,Me⟩:=M;dsimp only at*;by_cases hme:Me=0
   ·subst hme;have HR3:=hid (HR2.out.trans (if_neg (by decide)));have hmo:=HMO.out (by first|exact rfl|trivial);have HDV2:=hid (HDV.out hmo);have HDO2:=hid (HDO.out hmo);rw[show rtV Mr= .agg #[.bool ma,.string mb,.string mc] from HM.out,HVV.out]at HDV2;have q0:=hC8.at0;have q1:=hC8.at1;have q2:=hC8.at2;have ql:=hC8.lt;have v0:=hV8.at0;have v1:=hV8.at1;have v2:=hV8.at2;have vl:=hV8.lt;have H8:=hid hbe8;have HFL2:=hid (λh=>HFL.out (by first|exact rfl|trivial) HNZ.out (by first|exact rfl|trivial) h);clear hbe8 hC8 hV8 HR2 HDV HDO HMO HFL hmo HM;generalize divR Mr Vr=D at*;(go_wp2_with fail);refine(HDV2.out w8 (HTB.out w8 H8.out)).mono ?_;obtain⟨da,db,dc,hD⟩:=rtE_tri D;rw[hD];rintro e w9 ⟨rfl,hb9⟩;have HD:=hid hD;have hbe9:=HBEL_trans H8.out hb9;have hbe10:=hbe9.alloc hbe9.size (.cells #[.bool da,.string db,.string dc] 53);have hD10:=Blk.new w9 53 #[.bool da,.string db,.string dc];clear hb9 hbe9 H8 HDV2 hD q0 q1 q2 ql v0 v1 v2 vl;(go_upto_region 12 with fail);obtain⟨DB,hDB⟩:∃DB,DB=w9.heap.size:=⟨_,rfl⟩;rw[<-hDB]at hD10⊢;generalize w9.alloc (.cells #[.bool da,.string db,.string dc] 53)=w10 at*;clear hDB;obtain⟨Dr,De⟩:=D;dsimp only at*;by_cases hde:De=0
    ·subst hde;have HR4:=hid (HR3.out.trans (if_neg (by decide)));obtain⟨k1,k2,k3⟩:=HFL2.out (by first|exact rfl|trivial);have HK3:=hid k3;have HFF:=hid (rfloor_any Dr (HDO2.out (by first|exact rfl|trivial)) k1 k2);rw[show rtV Dr= .agg #[.bool da,.string db,.string dc] from HD.out]at HFF;have q0:=hD10.at0;have q1:=hD10.at1;have q2:=hD10.at2;have ql:=hD10.lt;have H10:=hid hbe10;clear hbe10 hD10 k1 k2 k3 HFL2 HDO2 HD HR3;generalize Dr.num / Dr.den=N at*;(go_wp2_with fail);refine(HFF.out w10 (HTB.out w10 H10.out)).mono ?_;rintro e w11 ⟨rfl,hb11⟩;(go_wp2_with fail);go_ret2;exact⟨by rw[HR4.out,HK3.out];rfl,HBEL_trans H10.out hb11⟩
    ·have HX:=hid (HR3.out.trans (if_pos hde));(have hde2:(De==0)=false:=by simp[hde]);clear HFL2 HDO2 HD HR3;(go_wp2_with fail);go_ret2;exact⟨by rw[HX.out];rfl,hbe10⟩
   ·have HX:=hid (HR2.out.trans (if_pos hme));(have hme2:(Me==0)=false:=by simp[hme]);clear HFL HDV HDO HMO HM HR2;(go_wp2_with fail);go_ret2;exact⟨by rw[HX.out];rfl,hbe8⟩
 ·have HR1:=hid (HR.out.trans (if_pos hce));have hce2:(Ce==0)=false:=by simp[hce]
  clear HVL HCR HVR HCV HFL HR;go_wp2_with fail
  go_ret2;exact⟨by rw[HR1.out];rfl,hbe2⟩
end
section
open Go.Shelf
theorem findP_at{l:List ProdD}{id:ByteArray}{k:Nat}(hk:k<l.length)(h:∀p∈l.take k,p.id≠id)(he:l[k].id =id):findP l id=k:=by
 have e:l.findIdx (λp=>decide (p.id=id))=k:=by
  rw[List.findIdx_eq hk];refine⟨by simp[he],λj hj=> ?_⟩;have:=h l[j] (List.mem_take_iff_getElem.2 ⟨j,by omega,rfl⟩);simp[this]
 unfold findP;rw[e,if_pos hk]
theorem findP_no{l:List ProdD}{id:ByteArray}(h:∀p∈l,p.id≠id):findP l id= -1:=by
 unfold findP;rw[if_neg];intro hh;obtain⟨p,hp,he⟩:=List.findIdx_lt_length.1 hh;exact h p hp (by simpa using he)
theorem find28_any(Z:Zone)(v:Value)(l:List ProdD)(id:ByteArray)(w:World)(h:Prods Z w v l):
  Calls Tryz.prog 7 #[v,.string id] w λe w'=>e= .returned (.int .i64 (findP l id))∧w=w':=by
 obtain⟨A,cap,rfl,hll,hs⟩:=h.form;obtain⟨RR,hRR⟩:∃RR,RR=findP l id:=⟨_,rfl⟩;rw[<-hRR];have HR:=hid hRR;have HS:=hid hs;clear h hs hRR;go_enter Tryz.func7,Tryz.ntmps7
 go_wp2;go_loopw[5] (λiv wr=>∃k:Nat,k≤l.length∧iv= .int .i64 k∧wr=w∧Hid (∀p∈l.take k,p.id≠id)) (λiv _=>l.length-(intOf iv).toNat);case atStart=>exact⟨0,Nat.zero_le _,rfl,rfl,hid (by simp)⟩
 case round=>
  obtain⟨k,hk,rfl,rfl,hno⟩:=hrel;by_cases hlt:k<l.length
  ·obtain⟨b,off,cs,rfl,hzb,hc,hR⟩:=HS.out.at_ hlt;obtain⟨CA,ccap,PA,pcap,rfl,-,-,-⟩:=hR.form2;have c0:wr.cell? ⟨b,off+k*5,none⟩=_:=hc 0 _ rfl;have cl:=lt_of_cell c0;have HAT:=hid (λ(he:l[k].id =id)=>findP_at hlt hno.out he);have HNX:=hid (λ(he:l[k].id ≠id)=>take_step (P:=λp=>p.id≠id) hlt hno.out he);(have hk1:((k:Nat):Int)<(l.length:Int):=by omega);(have hk0:(0:Int)≤((k:Nat):Int):=by omega);have heq:(l[k].id.toList ==id.toList)=decide (l[k].id =id):=toList_beq _ _;clear hc hR;generalize l[k].id =y at*;by_cases he:y=id
   ·have HX:=hid (HR.out.trans (HAT.out he));rw[decide_eq_true he]at heq;clear HNX HAT;(go_wp2_with fail);go_ret;exact⟨by rw[HX.out];rfl,rfl⟩
   ·rw[decide_eq_false he]at heq;have HN:=hid (HNX.out he);clear HNX HAT;(go_wp2_with fail);go_roundw;(case rel=>exact⟨k+1,by omega,by go_num,by first|exact rfl|trivial,hid HN.out⟩);case measure=>simp[intOf];omega
  ·(obtain rfl:k=l.length:=by omega);have HX:=hid (HR.out.trans (findP_no (by have:=hno.out;rwa[List.take_length]at this)));clear HR;(go_wp2_with fail);go_ret;exact⟨by rw[HX.out];rfl,rfl⟩
theorem number_any(n:Int)(hn:I64 n)(w:World)(htab:TabB w.heap.size w):
  Calls Tryz.prog 13 #[.int .i64 n] w λe w'=>e= .returned (rtV (ofR n 1))∧Below w.heap.size w w':=by
 have HOF:=hid (λW(hW:Below w.heap.size w W)=>of_any n 1 hn (by unfold I64;omega) (by decide) W ((htab.on hW).mono hW.size));obtain⟨a,b,c,hz⟩:∃x y z,rtV (ofR n 1)= .agg #[.bool x,.string y,.string z]:=⟨_,_,_,rfl⟩;rw[hz]at HOF⊢;have hr:=Blk.new w 53 #[.bool false,.string ⟨#[]⟩,.string ⟨#[]⟩];have hb:=below1 w (.cells #[.bool false,.string ⟨#[]⟩,.string ⟨#[]⟩] 53);have hl:w.heap.size≤w.heap.size:=Nat.le_refl _;clear hz htab hn;go_enter Tryz.func13,Tryz.ntmps13
 go_upto_region 1 with fail
 generalize w.alloc (.cells #[.bool false,.string ⟨#[]⟩,.string ⟨#[]⟩] 53)=w0 at*;have H0:=hid (And.intro hb hr);clear hb hr;go_wp2_with fail
 refine(HOF.out w0 H0.out.1).mono ?_;rintro e w1 ⟨rfl,hb1⟩;have hbe:=HBEL_trans H0.out.1 hb1;have hbe2:=hbe.alloc hbe.size (.cells #[.bool a,.string b,.string c] 53);have hr2:=(H0.out.2.below hb1 H0.out.2.lt).alloc (.cells #[.bool a,.string b,.string c] 53);have hX:=Blk.new w1 53 #[.bool a,.string b,.string c];clear hb1 H0 hbe HOF;go_upto_region 2 with fail
 obtain⟨XB,hXB⟩:∃XB,XB=w1.heap.size:=⟨_,rfl⟩;rw[<-hXB]at hX⊢;generalize w1.alloc (.cells #[.bool a,.string b,.string c] 53)=w2 at*;clear hXB;have q0:=hX.at0;have q1:=hX.at1;have q2:=hX.at2;have ql:=hX.lt;have r0:=hr2.at0;have r1:=hr2.at1;have r2:=hr2.at2;have g0:=hr2.frozen 0;have g1:=hr2.frozen 1;have g2:=hr2.frozen 2;have gl:=hr2.lt;have H2:=hid (And.intro hbe2 hr2);clear hbe2 hr2 hX;go_wp2_with fail
 have HO:=((H2.out.2.set_ 0 (.bool a)).set_ 1 (.string b)).set_ 2 (.string c);have HB:=((H2.out.1.setCell (p:=⟨w.heap.size,0,none⟩) hl (.bool a)).setCell (p:=⟨w.heap.size,1,none⟩) hl (.string b)).setCell (p:=⟨w.heap.size,2,none⟩) hl (.string c);have r0:=HO.at0;have r1:=HO.at1;have r2:=HO.at2;exact bodyPost_ret (v:= .agg #[.bool a,.string b,.string c]) (by simp[results,Tryz.results13,go_sem,r0,r1,r2]) rfl ⟨rfl,HB⟩
def StrRow(Z:Zone)(w:World)(v:Value)(l:List ByteArray):Prop:=∃A cap,v= .slice A l.length cap∧l.length≤1000000000∧Row Z w A (l.map .string)
theorem StrRow.keep{Z:Zone}{w w':World}{v:Value}{l:List ByteArray}(h:StrRow Z w v l)(hk:Keeps Z w w'):StrRow Z w' v l:=by
 obtain⟨A,cap,e,hl,hr⟩:=h;refine⟨A,cap,e,hl,λhne=> ?_⟩;obtain⟨b,off,e2,hz,hc⟩:=hr hne;exact⟨b,off,e2,hz,λj u hu=>hk.cell hz (hc j u hu)⟩
theorem StrRow.at_{Z:Zone}{w:World}{A:Option Addr}{l:List ByteArray}(h:Row Z w A (l.map .string)){k:Nat}(hk:k<l.length):∃b off,A=some ⟨b,off,none⟩∧Z b∧w.cell? ⟨b,off+k,none⟩=some (.string l[k]):=by
 obtain⟨b,off,e,hz,hc⟩:=h (by intro e;have:=congrArg List.length e;simp at this;subst this;simp at hk);exact⟨b,off,e,hz,hc k _ (by simp[hk])⟩
def sameS(a b:List ByteArray):Bool:=decide (a=b)
theorem sameS_step{a b:List ByteArray}{k:Nat}(ha:k<a.length)(hb:k<b.length)(h:a.take k=b.take k)(he:a[k]=b[k]):a.take (k+1)=b.take (k+1):=by
 rw[take_succ_get ha,take_succ_get hb,h,he]
theorem strings28_any(Z Z':Zone)(v v':Value)(a b:List ByteArray)(w:World)(ha:StrRow Z w v a)(hb:StrRow Z' w v' b):
  Calls Tryz.prog 17 #[v,v'] w λe w'=>e= .returned (.bool (sameS a b))∧Below w.heap.size w w':=by
 obtain⟨A,cap,rfl,hla,hra⟩:=ha;obtain⟨B,cap',rfl,hlb,hrb⟩:=hb;obtain⟨RR,hRR⟩:∃RR,RR=sameS a b:=⟨_,rfl⟩;rw[<-hRR];have HR:=hid hRR;have HA:=hid hra;have HB:=hid hrb;clear hRR hra hrb;by_cases hlen:a.length=b.length
 ·have HL:=hid hlen;have hl1:((a.length:Int)==(b.length:Int))=true:=by simp[hlen]
  rw[<-hlen]at hlb;rw[<-hlen];clear hlen hl1;go_enter Tryz.func17,Tryz.ntmps17
  go_wp2;go_loopw[5] (λiv wr=>∃k:Nat,k≤a.length∧iv= .int .i64 k∧Below w.heap.size w wr∧Hid (a.take k=b.take k)) (λiv _=>a.length-(intOf iv).toNat);case atStart=>exact⟨0,Nat.zero_le _,rfl,.refl _ _,hid (by simp)⟩
  case round=>
   obtain⟨k,hk,rfl,hbel,hsm⟩:=hrel;by_cases hlt:k<a.length
   ·obtain⟨p,off,rfl,hz,hc⟩:=StrRow.at_ HA.out hlt;obtain⟨p',off',rfl,hz',hc'⟩:=StrRow.at_ HB.out (k:=k) (by have:=HL.out;omega);have hcl:=lt_of_cell hc;have hcl':=lt_of_cell hc';have c0:=brd hbel hc hcl;have c1:=brd hbel hc' hcl';have cl:=lt_of_cell c0;have cl':=lt_of_cell c1;have heq:(a[k].toList ==(b[k]'(by have:=HL.out;omega)).toList)=decide (a[k]=b[k]'(by have:=HL.out;omega)):=toList_beq _ _;have HNX:=hid (λ(he:a[k]=b[k]'(by have:=HL.out;omega))=>sameS_step hlt (by have:=HL.out;omega) hsm.out he);have HNO:=hid (λ(he:a[k]≠b[k]'(by have:=HL.out;omega))=>(show sameS a b=false from decide_eq_false λe=>he (by subst e;rfl)));(have hk1:((k:Nat):Int)<(a.length:Int):=by omega);(have hk0:(0:Int)≤((k:Nat):Int):=by omega);clear hc hc' hcl hcl' hz hz';have HBL:=hid hbel;clear hbel;generalize a[k]=x at*;generalize b[k]'(by have:=HL.out;omega)=y at*;by_cases he:x=y
    ·rw[decide_eq_true he]at heq;have HN:=hid (HNX.out he);clear HNX HNO;go_wp2;go_quiet(fail);have hB:=hid (HBL.out.trans ((below_drewN' (Below.refl _ wr) nq).mono HBL.out.size));clear c0 c1 cl cl';generalize wr.drewN nq=w2 at*;(go_wp2_with fail);go_roundw;(case rel=>exact⟨k+1,by omega,by go_num,hB.out,hid HN.out⟩);case measure=>simp[intOf];omega
    ·rw[decide_eq_false he]at heq;have HX:=hid (HR.out.trans (HNO.out he));clear HNX HNO;go_wp2;go_quiet(fail);have hB:=HBL.out.trans ((below_drewN' (Below.refl _ wr) nq).mono HBL.out.size);clear c0 c1 cl cl';generalize wr.drewN nq=w2 at*;(go_wp2_with fail);go_ret;exact⟨by rw[HX.out];rfl,hB⟩
   ·obtain rfl:k=a.length:=by omega
    have HX:=hid (HR.out.trans (show sameS a b=true from decide_eq_true (by
     have h1:=hsm.out;rw[List.take_length,HL.out,List.take_length]at h1
     exact h1)))
    clear HR;(go_wp2_with fail);go_ret;exact⟨by rw[HX.out];rfl,hbel⟩
 ·have HX:=hid (HR.out.trans (show sameS a b=false from decide_eq_false λe=>hlen (by rw[e])));have hl1:((a.length:Int)==(b.length:Int))=false:=by simp;omega
  clear HR HA HB;go_enter Tryz.func17,Tryz.ntmps17
  go_wp2_with fail
  go_ret;exact⟨by rw[HX.out];rfl,.refl _ _⟩
end
section
open Go.Shelf
def fewC(p:ProdD):Bool:=p.parts.all λc=>decide (c.prod.size≤60)
def fewP1(p:ProdD):Bool:=decide (p.id.size≤60)&&decide (p.cas.length≤70)&&decide (p.parts.length≤14)&&decide (p.cur.size≤60)&&fewC p
def fewP(l:List ProdD)(r:List RateD)(n:Int):Bool:=l.all fewP1&&r.all (λx=>decide (x.cur.size≤60))&&decide ((l.length:Int)≤n)&&decide (r.length≤30)
theorem few28_any(Z Z':Zone)(v vr:Value)(l:List ProdD)(r:List RateD)(n:Int)(w:World)(h:Prods Z w v l)(hr:Rates Z' w vr r):
  Calls Tryz.prog 19 #[v,vr,.int .i64 n] w λe w'=>e= .returned (.bool (fewP l r n))∧w=w':=by
 obtain⟨A,cap,rfl,hll,hs⟩:=h.form;obtain⟨⟨B,bcap,rfl,hcap,_,hbytes,hrs⟩,hfit⟩:=hr;obtain⟨RR,hRR⟩:∃RR,RR=fewP l r n:=⟨_,rfl⟩;rw[<-hRR];have HR:=hid hRR;have HS:=hid hs;have HRS:=hid hrs
 have HN1:=hid (λ(p:ProdD)(hp:p∈l)(hb:fewP1 p=false)=>(show RR=false from by
  rw[hRR];unfold fewP
  rw[show l.all fewP1=false from List.all_eq_false.2 ⟨p,hp,by rw[hb];decide⟩];rfl))
 clear h hs hrs hRR;go_enter Tryz.func19,Tryz.ntmps19
 go_wp2;go_loopw[7] (λiv wr=>∃k:Nat,k≤l.length∧iv= .int .i64 k∧wr=w∧Hid (∀p∈l.take k,fewP1 p=true)) (λiv _=>l.length-(intOf iv).toNat);case atStart=>exact⟨0,Nat.zero_le _,rfl,rfl,hid (by simp)⟩
 case round=>
  obtain⟨k,hk,rfl,hwr,hyes⟩:=hrel;have HWR:=hid hwr;by_cases hlt:k<l.length
  ·obtain⟨b,off,cs,rfl,hzb,hc,hR⟩:=HS.out.at_ hlt;obtain⟨CA,ccap,PA,pcap,rfl,-,hcomp,-⟩:=hR.form2;have e0:w.cell? ⟨b,off+k*5,none⟩=_:=hc 0 _ rfl;have c0:=e0;rw[<-hwr]at c0;have e1:w.cell? ⟨b,off+k*5+1,none⟩=_:=hc 1 _ rfl;have c1:=e1;rw[<-hwr]at c1;have e2:w.cell? ⟨b,off+k*5+2,none⟩=_:=hc 2 _ rfl;have c2:=e2;rw[<-hwr]at c2;have e4:w.cell? ⟨b,off+k*5+4,none⟩=_:=hc 4 _ rfl;have c4:=e4;rw[<-hwr]at c4;have cl:=lt_of_cell c0;clear hwr;(have hk1:((k:Nat):Int)<(l.length:Int):=by omega);(have hk0:(0:Int)≤((k:Nat):Int):=by omega);have HNO:=hid (λ(hb:fewP1 (l[k]'hlt)=false)=>HN1.out l[k] (List.getElem_mem hlt) hb);have HNX:=hid (λ(he:fewP1 l[k]=true)=>take_step (P:=λp=>fewP1 p=true) hlt hyes.out he);have HCP:=hid hcomp;clear hc hR hcomp;generalize l[k]=p at*;have HP1:=hid (show fewP1 p=(decide (p.id.size≤60)&&decide (p.cas.length≤70)&&decide (p.parts.length≤14)&&decide (p.cur.size≤60)&&fewC p) from rfl);by_cases h1:p.id.size≤60
   ·by_cases h2:p.cas.length≤70
    ·by_cases h3:p.parts.length≤14
     ·by_cases h4:p.cur.size≤60
      ·obtain⟨PA',pcap',e',hpl',hps⟩:=HCP.out.form;injection e' with e1 e2 e3;subst e1 e3;have HPS:=hid hps;clear hps e2 hpl'
       have HCN:=hid (λ(c:CompD)(hc:c∈p.parts)(hb:¬c.prod.size≤60)=>(show RR=false from HNO.out (by
        rw[HP1.out,show fewC p=false from List.all_eq_false.2 ⟨c,hc,by simp[hb]⟩];simp)))
       have HCY:=hid (λ(hc:∀c∈p.parts,c.prod.size≤60)=>HNX.out (by
        rw[HP1.out,show fewC p=true from List.all_eq_true.2 λc hm=>decide_eq_true (hc c hm),decide_eq_true h1,decide_eq_true h2,decide_eq_true h3,decide_eq_true h4];rfl))
       clear HNO HNX HP1;go_wp2;go_loopw[8] (λiv w2=>∃j:Nat,j≤p.parts.length∧iv= .int .i64 j∧w2=w∧Hid (∀c∈p.parts.take j,c.prod.size≤60)) (λiv _=>p.parts.length-(intOf iv).toNat);case atStart=>exact⟨0,Nat.zero_le _,rfl,HWR.out,hid (by simp)⟩
       case round=>
        obtain⟨j,hj,rfl,hwr2,hjs⟩:=hrel;clear c0 c1 c2 c4 cl;have c4:=e4;rw[<-hwr2]at c4;have cl:=lt_of_cell c4;have HWR2:=hid hwr2;by_cases hjl:j<p.parts.length
        ·obtain⟨pb,poff,pcs,rfl,hzp,hpc,hpe⟩:=HPS.out.at_ hjl;subst hpe;obtain⟨d0,d1⟩:=comp_cells hpc;rw[<-hwr2]at d0 d1;clear hwr2;have dl:=lt_of_cell d0;(have hj1:((j:Nat):Int)<(p.parts.length:Int):=by omega);(have hj0:(0:Int)≤((j:Nat):Int):=by omega);have HNO:=hid (HCN.out _ (List.getElem_mem hjl));have HNX:=hid (λhe=>take_step (P:=λ(c:CompD)=>c.prod.size≤60) hjl hjs.out he);clear hpc hzp;generalize p.parts[j]=cc at*;obtain⟨cp,cn⟩:=cc;dsimp only at*;by_cases h5:cp.size≤60
         ·have HN:=hid (HNX.out h5);clear HNO HNX;(go_wp2_with fail);go_roundw;(case rel=>exact⟨j+1,by omega,by go_num,HWR2.out,hid HN.out⟩);case measure=>simp[intOf];omega
         ·have HX:=hid (HNO.out h5);clear HNO HNX;(go_wp2_with fail);go_ret;exact⟨by rw[HX.out];rfl,HWR2.out.symm⟩
        ·(obtain rfl:j=p.parts.length:=by omega);clear hwr2;have HN:=hid (HCY.out (by have:=hjs.out;rwa[List.take_length]at this));(go_wp2_with fail);go_roundw;(case rel=>exact⟨k+1,by omega,by go_num,HWR2.out,hid HN.out⟩);case measure=>simp[intOf];omega
      ·have HX:=hid (HNO.out (by rw[HP1.out,decide_eq_false h4];simp));(go_wp2_with fail);go_ret;exact⟨by rw[HX.out];rfl,HWR.out.symm⟩
     ·have HX:=hid (HNO.out (by rw[HP1.out,decide_eq_false h3];simp));(go_wp2_with fail);go_ret;exact⟨by rw[HX.out];rfl,HWR.out.symm⟩
    ·have HX:=hid (HNO.out (by rw[HP1.out,decide_eq_false h2];simp));(go_wp2_with fail);go_ret;exact⟨by rw[HX.out];rfl,HWR.out.symm⟩
   ·have HX:=hid (HNO.out (by rw[HP1.out,decide_eq_false h1];simp));(go_wp2_with fail);go_ret;exact⟨by rw[HX.out];rfl,HWR.out.symm⟩
  ·(obtain rfl:k=l.length:=by omega);have HL:=hid (show l.all fewP1=true from List.all_eq_true.2 (by have:=hyes.out;rwa[List.take_length]at this))
   have HRN:=hid (λ(x:RateD)(hx:x∈r)(hb:¬x.cur.size≤60)=>(show RR=false from by
    rw[HR.out];unfold fewP
    rw[show r.all (λx=>decide (x.cur.size≤60))=false from List.all_eq_false.2 ⟨x,hx,by simp[hb]⟩];simp))
   have HRY:=hid (λ(hx:∀x∈r,x.cur.size≤60)=>(show RR=(decide ((l.length:Int)≤n)&&decide (r.length≤30)) from by
    rw[HR.out];unfold fewP
    rw[HL.out,show r.all (λx=>decide (x.cur.size≤60))=true from List.all_eq_true.2 λx hm=>decide_eq_true (hx x hm)];simp))
   have HBY:=hid hbytes;clear hwr hyes HR HL HN1 HS hbytes hfit hcap;go_wp2;go_loopw[9] (λiv w2=>∃j:Nat,j≤r.length∧iv= .int .i64 j∧w2=w∧Hid (∀x∈r.take j,x.cur.size≤60)) (λiv _=>r.length-(intOf iv).toNat);case atStart=>exact⟨0,Nat.zero_le _,rfl,HWR.out,hid (by simp)⟩
   case round=>
    obtain⟨j,hj,rfl,hwr2,hjs⟩:=hrel;have HWR2:=hid hwr2;by_cases hjl:j<r.length
    ·obtain⟨pb,poff,pcs,rfl,hzp,hpc,hpe⟩:=HRS.out.at_ hjl;subst hpe;have d0:w.cell? ⟨pb,poff+j*4,none⟩=_:=hpc 0 _ rfl;rw[<-hwr2]at d0;have dl:=lt_of_cell d0;(have hj1:((j:Nat):Int)<(r.length:Int):=by omega);(have hj0:(0:Int)≤((j:Nat):Int):=by omega);have HNO:=hid (HRN.out _ (List.getElem_mem hjl));have HNX:=hid (λhe=>take_step (P:=λ(x:RateD)=>x.cur.size≤60) hjl hjs.out he);(have hrl:r.length≤3518437208883:=by have:=HBY.out;omega);clear hpc hzp hwr2;generalize r[j]=cc at*;by_cases h5:cc.cur.size≤60
     ·have HN:=hid (HNX.out h5);clear HNO HNX;(go_wp2_with fail);go_roundw;(case rel=>exact⟨j+1,by omega,by go_num,HWR2.out,hid HN.out⟩);case measure=>simp[intOf];omega
     ·have HX:=hid (HNO.out h5);clear HNO HNX;(go_wp2_with fail);go_ret;exact⟨by rw[HX.out];rfl,HWR2.out.symm⟩
    ·(obtain rfl:j=r.length:=by omega);have HN:=hid (HRY.out (by have:=hjs.out;rwa[List.take_length]at this));clear hwr2;by_cases h6:(l.length:Int)≤n
     ·(go_wp2_with fail);go_ret;exact⟨by rw[HN.out,decide_eq_true h6,Bool.true_and,show decide (r.length≤30)=decide ((r.length:Int)≤30) from decide_eq_decide.2 (by omega)];rfl,HWR2.out.symm⟩
     ·have HX:=hid (show RR=false from by rw[HN.out,decide_eq_false h6];rfl);(go_wp2_with fail);go_ret;exact⟨by rw[HX.out];rfl,HWR2.out.symm⟩
end
section
open Go.Shelf
def hGrade:ByteArray:=⟨#[103,114,97,100,101]⟩
def hArms:ByteArray:=⟨#[97,114,109,115]⟩
def hOther:ByteArray:=⟨#[111,116,104,101,114]⟩
def tabT:TarD:=⟨[⟨hGrade,2,0,9⟩],[⟨.mk 3 hGrade 6 5 [],hArms,true⟩,⟨.mk 1 ⟨#[]⟩ 0 0 [],hOther,false⟩]⟩
theorem blk_new'(w:World)(t:TypeId)(cs:Array Value){n:Nat}(h:n=w.heap.size):Blk (w.alloc (.cells cs t)) n t cs:=by subst h;exact Blk.new w t cs
def tabW(w:World):World:=
 ((((w.alloc (.cells #[.slice (some ⟨w.heap.size+1+1,0,none⟩) 1 1,.slice (some ⟨w.heap.size+1+1+1,0,none⟩) 2 2] 27)).alloc (.cells #[.int .i64 3,.string ⟨#[103,114,97,100,101]⟩,.int .i64 6,.int .i64 5,.slice none 0 0] 47)).alloc
  (.cells #[.string ⟨#[103,114,97,100,101]⟩,.int .i64 2,.int .i64 0,.int .i64 9] 95)).alloc
  (.cells #[.int .i64 3,.string ⟨#[103,114,97,100,101]⟩,.int .i64 6,.int .i64 5,.slice none 0 0,.string ⟨#[97,114,109,115]⟩,.bool true,.int .i64 1,.string ⟨#[]⟩,.int .i64 0,.int .i64 0,.slice none 0 0,.string ⟨#[111,116,104,101,114]⟩,.bool false] 49))
theorem tab_start(w:World):Below w.heap.size w (tabW w)∧Blk (tabW w) w.heap.size 27 #[.slice (some ⟨w.heap.size+1+1,0,none⟩) 1 1,.slice (some ⟨w.heap.size+1+1+1,0,none⟩) 2 2]∧
  Blk (tabW w) (w.heap.size+1+1) 95 #[.string hGrade,.int .i64 2,.int .i64 0,.int .i64 9]∧
  Blk (tabW w) (w.heap.size+1+1+1) 49 #[.int .i64 3,.string hGrade,.int .i64 6,.int .i64 5,.slice none 0 0,.string hArms,.bool true,.int .i64 1,.string ⟨#[]⟩,.int .i64 0,.int .i64 0,.slice none 0 0,.string hOther,.bool false]∧(tabW w).heap.size =w.heap.size+1+1+1+1:=by
 refine⟨((((Below.refl _ _).alloc (Nat.le_refl _) _).alloc (by simp) _).alloc (by simp;omega) _).alloc (by simp;omega) _,(((Blk.new w _ _).alloc _).alloc _).alloc _,(blk_new' _ _ _ (by simp)).alloc _,blk_new' _ _ _ (by simp),by simp[tabW]⟩
theorem fm0(Z:Zone)(W:World){op:Int}{nm:ByteArray}{c n:Int}(h0:I64 op)(h1:nm.size≤140737488355328)(h2:I64 c)(h3:I64 n):FmR Z W (.mk op nm c n []) [.int .i64 op,.string nm,.int .i64 c,.int .i64 n,.slice none 0 0]:=
 ⟨h0,h1,h2,h3,none,0,rfl,by simp,by omega,by simp,trivial⟩
theorem tab_tar(w:World):TarR (λb=>w.heap.size≤b∧b<w.heap.size+1+1+1+1) (tabW w) (.slice (some ⟨w.heap.size+1+1,0,none⟩) 1 1) (.slice (some ⟨w.heap.size+1+1+1,0,none⟩) 2 2) tabT:=by
 obtain⟨_,_,hf,hl,_⟩:=tab_start w;refine⟨?_,⟨⟨some ⟨w.heap.size+1+1+1,0,none⟩,2,rfl,Nat.le_refl _,by omega,by decide,?_⟩⟩⟩
 ·refine⟨⟨_,1,rfl,Nat.le_refl _,by omega,by decide,?_⟩,λx hx=> ?_⟩
  ·refine⟨w.heap.size+1+1,0,_,rfl,⟨by omega,by omega⟩,λj u hu=> ?_,rfl,trivial⟩;(have hj:j<4:=by have:=(List.getElem?_eq_some_iff.1 hu).1;simpa[FactD.cells]using this);rw[Nat.zero_add,hf.cell,<-hu];(have:j=0∨j=1∨j=2∨j=3:=by omega);rcases this with rfl|rfl|rfl|rfl<;>rfl
  ·(have:x=⟨hGrade,2,0,9⟩:=by simpa[tabT]using hx);subst this;exact⟨by decide,by unfold I64;dsimp only;omega,by unfold I64;dsimp only;omega,by unfold I64;dsimp only;omega⟩
 ·refine⟨_,0,[.int .i64 3,.string hGrade,.int .i64 6,.int .i64 5,.slice none 0 0,.string hArms,.bool true],rfl,⟨by omega,by omega⟩,λj u hu=> ?_,⟨_,fm0 _ _ (by unfold I64;omega) (by decide) (by unfold I64;omega) (by unfold I64;omega),rfl,by decide⟩,
   _,0+7,[.int .i64 1,.string ⟨#[]⟩,.int .i64 0,.int .i64 0,.slice none 0 0,.string hOther,.bool false],rfl,⟨by omega,by omega⟩,λj u hu=> ?_,⟨_,fm0 _ _ (by unfold I64;omega) (by decide) (by unfold I64;omega) (by unfold I64;omega),rfl,by decide⟩,trivial⟩
  ·(have hj:j<7:=by have:=(List.getElem?_eq_some_iff.1 hu).1;simpa using this);rw[Nat.zero_add,hl.cell j];rcases j with _ | _ | _ | _ | _ | _ | _ |j<;>first|exact hu|omega
  ·(have hj:j<7:=by have:=(List.getElem?_eq_some_iff.1 hu).1;simpa using this);rw[Nat.zero_add,hl.cell (7+j)];rcases j with _ | _ | _ | _ | _ | _ | _ |j<;>first|exact hu|omega
theorem table_any(w:World):Calls Tryz.prog 16 #[] w λe w'=>∃vd vl,e= .returned (.agg #[vd,vl])∧TarR (λb=>w.heap.size≤b∧b<w'.heap.size) w' vd vl tabT∧Below w.heap.size w w':=by
 go_enter Tryz.func16,Tryz.ntmps16
 go_wp2;obtain⟨hb,hr,-,-,hsz⟩:=tab_start w;have ht:=tab_tar w;have hW:tabW w=tabW w:=rfl
 conv at hW=>lhs;unfold tabW
 rw[hW];have r0:=hr.at0;have r1:=hr.at1;rw[<-hsz]at ht;generalize tabW w=W at*;exact bodyPost_ret (v:= .agg #[.slice (some ⟨w.heap.size+1+1,0,none⟩) 1 1,.slice (some ⟨w.heap.size+1+1+1,0,none⟩) 2 2]) (by simp[results,Tryz.results16,go_sem,r0,r1]) rfl ⟨_,_,rfl,ht,hb⟩
end
def nCrate:ByteArray:=⟨#[99,114,97,116,101]⟩
def nBolt:ByteArray:=⟨#[98,111,108,116]⟩
def nScope:ByteArray:=⟨#[115,99,111,112,101]⟩
def nKit:ByteArray:=⟨#[107,105,116]⟩
def nNone:ByteArray:=⟨#[110,111,110,101]⟩
def nEur:ByteArray:=⟨#[69,85,82]⟩
def hProds:List ProdD:=[⟨nCrate,[1],nEur,0,[⟨nKit,3⟩]⟩,⟨nBolt,[1],nEur,10,[]⟩,⟨nScope,[7],nEur,100,[]⟩,⟨nKit,[1],nEur,30,[⟨nBolt,2⟩,⟨nScope,1⟩]⟩]
theorem e_order:(orderP hProds).2=0∧(orderP hProds).1=[nBolt,nScope,nKit,nCrate]:=by decide+kernel
theorem e_check:checkP tabT hProds=0:=by decide+kernel
theorem e_check2:checkP tabT (hProds.take 2)=7:=by decide+kernel
theorem e_none:(valueP tabT hProds [] nEur nNone 0).2=11:=by decide+kernel
theorem e_v:(valueP tabT hProds [] nEur nCrate 0).2=0:=by decide+kernel
theorem e_v1:(valueP tabT hProds [] nEur nCrate 0).1.neg =false∧(valueP tabT hProds [] nEur nCrate 0).1.num =450∧(valueP tabT hProds [] nEur nCrate 0).1.den =1:=by decide+kernel
theorem e_c:(controlP tabT hProds [] nEur nCrate 0).2=0∧(controlP tabT hProds [] nEur nCrate 0).1.neg =false∧(controlP tabT hProds [] nEur nCrate 0).1.num =300∧(controlP tabT hProds [] nEur nCrate 0).1.den =1:=by decide+kernel
theorem e_c2:(controlP tabT hProds [] nEur nBolt 0).2=0∧(controlP tabT hProds [] nEur nBolt 0).1.neg =false∧(controlP tabT hProds [] nEur nBolt 0).1.num =0∧(controlP tabT hProds [] nEur nBolt 0).1.den =1:=by decide+kernel
theorem e_s:shareP tabT hProds [] nEur nKit 0=(66,0):=by decide+kernel
theorem e_s2:shareP tabT hProds [] nEur nScope 0=(100,0):=by decide+kernel
section
open Go.Shelf
theorem wSG{P:Program}{ops:Array Oper}{Q:Exit->Act->World->Prop}{md:Region.Mode}{S:World->Prop}{s:Nat}(i:Nat){o:Oper}{fuel:Nat}{listed:Array Bool}{a:Act}{w:World}
  (h:∀K:Act->World->Prop,(∀a' w',((listed.setIfInBounds i true).getD s true=true∨S w')->wpAnyS P md ops Q S s fuel (listed.setIfInBounds i true) a' w'->K a' w')->Oper.wp P o a w K Q)
  (hr:Region.ready md ops listed=[i]:=by kernel_rfl)(ho:ops[i]? =some o:=by exact rfl)(hg:Region.wanted o (yielded ops a.tmps)=true:=by kernel_rfl):wpAnyS P md ops Q S s (fuel+1) listed a w:=by
 refine⟨λh0=>(by rw[hr]at h0;cases h0),λj hj=> ?_⟩;rw[hr]at hj;simp at hj;subst hj;unfold wpOp;rw[ho];simp only;rw[if_pos hg];exact Or.inl (h _ λa' w' h1 h2=>⟨h1,h2⟩)
theorem Tryz.eProd:ElemIs Tryz.prog 42 5 88:=elemIs_of (z:= .agg #[.string ⟨#[]⟩,.slice none 0 0,.string ⟨#[]⟩,.int .i64 0,.slice none 0 0]) (by kernel_rfl) rfl (by decide)
def hW1(w:World):World:=(((((w.alloc (.cells #[.int .i64 1] 3)).alloc (.cells #[.string ⟨#[107,105,116]⟩,.int .i64 3] 51)).alloc (.cells #[.int .i64 1] 3)).alloc (.cells #[.int .i64 7] 3)).alloc (.cells #[.string ⟨#[99,114,97,116,101]⟩,.slice (some ⟨w.heap.size,0,none⟩) 1 1,.string ⟨#[69,85,82]⟩,.int .i64 0,.slice (some ⟨w.heap.size+1,0,none⟩) 1 1,.string ⟨#[98,111,108,116]⟩,.slice (some ⟨w.heap.size+1+1,0,none⟩) 1 1,.string ⟨#[69,85,82]⟩,.int .i64 10,.slice none 0 0,.string ⟨#[115,99,111,112,101]⟩,.slice (some ⟨w.heap.size+1+1+1,0,none⟩) 1 1,.string ⟨#[69,85,82]⟩,.int .i64 100,.slice none 0 0] 42))
def hW2(W:World):World:=(((W.alloc (.cells #[.int .i64 1] 3)).alloc (.cells #[.string ⟨#[98,111,108,116]⟩,.int .i64 2,.string ⟨#[115,99,111,112,101]⟩,.int .i64 1] 51)).alloc (.cells #[.string ⟨#[107,105,116]⟩,.slice (some ⟨W.heap.size,0,none⟩) 1 1,.string ⟨#[69,85,82]⟩,.int .i64 30,.slice (some ⟨W.heap.size+1,0,none⟩) 2 2] 42))
theorem hw1_is(w:World):Below w.heap.size w (hW1 w)∧Blk (hW1 w) (w.heap.size) 3 #[.int .i64 1]∧Blk (hW1 w) (w.heap.size+1) 51 #[.string ⟨#[107,105,116]⟩,.int .i64 3]∧Blk (hW1 w) (w.heap.size+1+1) 3 #[.int .i64 1]∧Blk (hW1 w) (w.heap.size+1+1+1) 3 #[.int .i64 7]∧Blk (hW1 w) (w.heap.size+1+1+1+1) 42 #[.string ⟨#[99,114,97,116,101]⟩,.slice (some ⟨w.heap.size,0,none⟩) 1 1,.string ⟨#[69,85,82]⟩,.int .i64 0,.slice (some ⟨w.heap.size+1,0,none⟩) 1 1,.string ⟨#[98,111,108,116]⟩,.slice (some ⟨w.heap.size+1+1,0,none⟩) 1 1,.string ⟨#[69,85,82]⟩,.int .i64 10,.slice none 0 0,.string ⟨#[115,99,111,112,101]⟩,.slice (some ⟨w.heap.size+1+1+1,0,none⟩) 1 1,.string ⟨#[69,85,82]⟩,.int .i64 100,.slice none 0 0]:=
 ⟨(((((Below.refl _ _).alloc (Nat.le_refl _) _).alloc (by simp) _).alloc (by simp;omega) _).alloc (by simp;omega) _).alloc (by simp;omega) _,((((Blk.new w _ _).alloc _).alloc _).alloc _).alloc _,(((blk_new' _ _ _ (by simp)).alloc _).alloc _).alloc _,((blk_new' _ _ _ (by simp)).alloc _).alloc _,(blk_new' _ _ _ (by simp)).alloc _,blk_new' _ _ _ (by simp)⟩
theorem hw2_is(W:World):Below W.heap.size W (hW2 W)∧Blk (hW2 W) (W.heap.size) 3 #[.int .i64 1]∧Blk (hW2 W) (W.heap.size+1) 51 #[.string ⟨#[98,111,108,116]⟩,.int .i64 2,.string ⟨#[115,99,111,112,101]⟩,.int .i64 1]∧Blk (hW2 W) (W.heap.size+1+1) 42 #[.string ⟨#[107,105,116]⟩,.slice (some ⟨W.heap.size,0,none⟩) 1 1,.string ⟨#[69,85,82]⟩,.int .i64 30,.slice (some ⟨W.heap.size+1,0,none⟩) 2 2]:=
 ⟨(((Below.refl _ _).alloc (Nat.le_refl _) _).alloc (by simp) _).alloc (by simp;omega) _,((Blk.new W _ _).alloc _).alloc _,(blk_new' _ _ _ (by simp)).alloc _,blk_new' _ _ _ (by simp)⟩
theorem h_int1{W:World}{b:Nat}{n:Int}(h:Blk W b 3 #[.int .i64 n])(hn:I64 n):Ints (λb=>b<W.heap.size) W (.slice (some ⟨b,0,none⟩) 1 1) [n]:=
 ⟨⟨some ⟨b,0,none⟩,1,rfl,Nat.le_refl _,by decide,by show 1*8≤_;omega,λ_=>⟨b,0,rfl,h.lt,λj u hu=>by rw[Nat.zero_add,h.cell];simpa using hu⟩⟩,by simpa using hn⟩
theorem h_comps{W:World}{b:Nat}{l:List CompD}(h:Blk W b 51 (l.flatMap CompD.cells).toArray)(hl:l.length≤10)(hf:∀c∈l,c.fit):Comps (λb=>b<W.heap.size) W (.slice (some ⟨b,0,none⟩) l.length l.length) l:=by
 refine⟨⟨some ⟨b,0,none⟩,l.length,rfl,Nat.le_refl _,by omega,by omega,?_⟩,hf⟩
 have he:EachR (λcs c=>cs=CompD.cells c) 2 l (l.map CompD.cells):=by
  clear h hf hl
  induction l with
  |nil=>trivial
  |cons c l ih=>exact⟨⟨rfl,rfl⟩,ih⟩
 refine EachR.rows (Z:=λb=>b<W.heap.size) h.lt he λj u hu=> ?_
 rw[Nat.zero_add,h.cell];simpa[List.flatMap]using hu
theorem own_full{w:World}{g base n size:Nat}{e:TypeId}{cells:Array Value}(h:Blk w g e cells)(hb:base≤g)(hn:n≤maxLen)(hs:cells.size=n*size):w.ownsRow base e size (.slice (some ⟨g,0,none⟩) n n) n cells.toList:=
 ⟨by simpa using hs,Or.inr ⟨g,n,cells,rfl,hb,h,Nat.le_refl _,hn,hs,List.take_of_length_le (by rw[Array.length_toList,hs];exact Nat.le_refl _)⟩⟩
theorem seq_take{α:Type}{R:List Value->α->Prop}{size:Nat}{Z:Zone}{w:World}:∀{l:List α}{A:Option Addr}(n:Nat),SeqR R size Z w l A->SeqR R size Z w (l.take n) A
 | _,_,0,_=>trivial
 |[],_,_+1,_=>trivial
 | _::_,_,n+1,⟨b,off,cs,e,h1,h2,h3,h4⟩=>⟨b,off,cs,e,h1,h2,h3,seq_take n h4⟩
theorem prods_take{Z:Zone}{w:World}{A:Option Addr}{cap:Nat}{l:List ProdD}(h:Prods Z w (.slice A l.length cap) l)(n:Nat)(hn:n≤l.length):Prods Z w (.slice A n cap) (l.take n):=by
 obtain⟨⟨A',cap',e,h1,h2,h3,h4⟩⟩:=h;injection e with e1 _ e2;subst e1 e2;have hl:(l.take n).length =n:=by rw[List.length_take];omega
 exact⟨⟨A,cap,by rw[hl],by omega,h2,by omega,seq_take n h4⟩⟩
theorem prods_cap{Z:Zone}{w:World}{A:Option Addr}{n cap:Nat}{l:List ProdD}(h:Prods Z w (.slice A n cap) l):n≤cap∧cap≤9223372036854775807:=by
 obtain⟨⟨A',cap',e,h1,h2,h3,h4⟩⟩:=h;injection e with _ e1 e2;subst e1 e2;exact⟨h1,h2⟩
theorem no_rates(Z:Zone)(w:World):Rates Z w (.slice none 0 0) []:=⟨⟨none,0,rfl,by simp,by decide,by simp,trivial⟩,by simp⟩
structure Hd (w W:World) (A:Option Addr) (cap:Nat) (B:Option Addr) (bcap:Nat):Prop where
 pr:Prods (λb=>b<W.heap.size) W (.slice A 4 cap) hProds
 st:StrRow (λb=>b<W.heap.size) W (.slice B 4 bcap) [nBolt,nScope,nKit,nCrate]
 be:Below w.heap.size w W
 tab:TabB W.heap.size W
theorem Hd.on{w W W':World}{A B:Option Addr}{cap bcap:Nat}(h:Hd w W A cap B bcap)(hb:Below W.heap.size W W'):Hd w W' A cap B bcap:=
 ⟨(h.pr.keep (.of_below hb)).mono λ_ hx=>Nat.lt_of_lt_of_le hx hb.size,by
  obtain⟨A',cap',e,hl,hr⟩:=h.st.keep (.of_below hb)
  exact⟨A',cap',e,hl,hr.mono λ_ hx=>Nat.lt_of_lt_of_le hx hb.size⟩,h.be.trans (hb.mono h.be.size),(h.tab.on hb).mono hb.size⟩
theorem tabT_fine:tabT.fine:=by
 intro x hx;unfold tabT at hx;simp only[List.mem_cons,List.not_mem_nil,or_false]at hx;rcases hx with rfl|rfl<;>decide
section calls
variable {w W:World} {A B:Option Addr} {cap bcap:Nat} (h:Hd w W A cap B bcap) {vd vl:Value} {Zt:Zone} (ht:TarR Zt W vd vl tabT) (hz:∀b,Zt b->b<W.heap.size)
include h ht hz
theorem h_val{id:ByteArray}{p:Rt × Int}{a:Bool}{b c:ByteArray}{n:Int}(hp:valueP tabT hProds [] nEur id 0=p)(hx:rtE p= .agg #[.bool a,.string b,.string c])(hn:p.2=n):
  Calls Tryz.prog 9 #[.agg #[vd,vl],.slice A 4 cap,.slice none 0 0,.string nEur,.string id,.int .i64 0] W λe w'=>e= .returned (.tuple #[.agg #[.bool a,.string b,.string c],.int .i64 n])∧Below W.heap.size W w':=by
 have hh:=value_any (λb=>b<W.heap.size) vd vl (.slice A 4 cap) (.slice none 0 0) tabT hProds [] nEur id 0 W (ht.mono hz) h.pr (no_rates _ _) (λ_ h=>h) tabT_fine (by decide) h.tab;rwa[hp,hx,hn]at hh
theorem h_ctl{id:ByteArray}{p:Rt × Int}{a:Bool}{b c:ByteArray}{n:Int}(hp:controlP tabT hProds [] nEur id 0=p)(hx:rtE p= .agg #[.bool a,.string b,.string c])(hn:p.2=n):
  Calls Tryz.prog 10 #[.agg #[vd,vl],.slice A 4 cap,.slice none 0 0,.string nEur,.string id,.int .i64 0] W λe w'=>e= .returned (.tuple #[.agg #[.bool a,.string b,.string c],.int .i64 n])∧Below W.heap.size W w':=by
 have hh:=controlled_any (λb=>b<W.heap.size) vd vl (.slice A 4 cap) (.slice none 0 0) tabT hProds [] nEur id 0 W (ht.mono hz) h.pr (no_rates _ _) (λ_ h=>h) tabT_fine (by decide) h.tab;rwa[hp,hx,hn]at hh
theorem h_shr{id:ByteArray}{n e:Int}(hp:shareP tabT hProds [] nEur id 0=(n,e)):
  Calls Tryz.prog 11 #[.agg #[vd,vl],.slice A 4 cap,.slice none 0 0,.string nEur,.string id,.int .i64 0] W λr w'=>r= .returned (.tuple #[.int .i64 n,.int .i64 e])∧Below W.heap.size W w':=by
 have hh:=share_any (λb=>b<W.heap.size) vd vl (.slice A 4 cap) (.slice none 0 0) tabT hProds [] nEur id 0 W (ht.mono hz) h.pr (no_rates _ _) (λ_ h=>h) tabT_fine (by decide) h.tab;rwa[hp]at hh
theorem h_chk:Calls Tryz.prog 6 #[.agg #[vd,vl],.slice A 4 cap] W λe w'=>e= .returned (.int .i64 0)∧Below W.heap.size W w':=by
 have hh:=pcheck_any (λb=>b<W.heap.size) vd vl (.slice A 4 cap) tabT hProds W (ht.mono hz) h.pr (λ_ h=>h) tabT_fine h.tab;rwa[e_check]at hh
theorem h_chk2:Calls Tryz.prog 6 #[.agg #[vd,vl],.slice A 2 cap] W λe w'=>e= .returned (.int .i64 7)∧Below W.heap.size W w':=by
 have hh:=pcheck_any (λb=>b<W.heap.size) vd vl (.slice A 2 cap) tabT (hProds.take 2) W (ht.mono hz) (prods_take (l:=hProds) h.pr 2 (by decide)) (λ_ h=>h) tabT_fine h.tab;rwa[e_check2]at hh
end calls
theorem h_num{n:Int}{a:Bool}{b c:ByteArray}(hn:I64 n)(hx:rtV (ofR n 1)= .agg #[.bool a,.string b,.string c])(W:World)(htab:TabB W.heap.size W):
  Calls Tryz.prog 13 #[.int .i64 n] W λe w'=>e= .returned (.agg #[.bool a,.string b,.string c])∧Below W.heap.size W w':=by
 have hh:=number_any n hn W htab;rwa[hx]at hh
theorem rt_tri(r:Rt):∃a b c,rtV r= .agg #[.bool a,.string b,.string c]:=⟨_,_,_,rfl⟩
theorem rtE_zero(r:Rt):rtE (r,0)=rtV r:=rfl
theorem h_strs(y:World):StrRow (λb=>b<(y.alloc (.cells #[.string ⟨#[98,111,108,116]⟩,.string ⟨#[115,99,111,112,101]⟩,.string ⟨#[107,105,116]⟩,.string ⟨#[99,114,97,116,101]⟩] 9)).heap.size)
  (y.alloc (.cells #[.string ⟨#[98,111,108,116]⟩,.string ⟨#[115,99,111,112,101]⟩,.string ⟨#[107,105,116]⟩,.string ⟨#[99,114,97,116,101]⟩] 9)) (.slice (some ⟨y.heap.size,0,none⟩) 4 4) [nBolt,nScope,nKit,nCrate]:=by
 have h:=Blk.new y 9 #[.string ⟨#[98,111,108,116]⟩,.string ⟨#[115,99,111,112,101]⟩,.string ⟨#[107,105,116]⟩,.string ⟨#[99,114,97,116,101]⟩]
 exact⟨_,4,rfl,by decide,λ_=>⟨_,0,rfl,h.lt,λj u hu=>by
  rw[Nat.zero_add,h.cell j,<-hu]
  rcases j with _ | _ | _ | _ |j<;>rfl⟩⟩
theorem h_strings{Z Z':Zone}{W:World}{v v':Value}{l:List ByteArray}(h:StrRow Z W v l)(h':StrRow Z' W v' l):Calls Tryz.prog 17 #[v,v'] W λe w'=>e= .returned (.bool true)∧Below W.heap.size W w':=by
 have hh:=strings28_any Z Z' v v' l l W h h';rwa[show sameS l l=true from decide_eq_true rfl]at hh
theorem h_prods{W1 w5:World}{n0 g5 cap5:Nat}(h2:Below W1.heap.size W1 (hW2 W1)∧Blk (hW2 W1) (W1.heap.size) 3 #[.int .i64 1]∧Blk (hW2 W1) (W1.heap.size+1) 51 #[.string ⟨#[98,111,108,116]⟩,.int .i64 2,.string ⟨#[115,99,111,112,101]⟩,.int .i64 1]∧Blk (hW2 W1) (W1.heap.size+1+1) 42 #[.string ⟨#[107,105,116]⟩,.slice (some ⟨W1.heap.size,0,none⟩) 1 1,.string ⟨#[69,85,82]⟩,.int .i64 30,.slice (some ⟨W1.heap.size+1,0,none⟩) 2 2])
  (h1:Blk W1 n0 3 #[.int .i64 1]∧Blk W1 (n0+1) 51 #[.string ⟨#[107,105,116]⟩,.int .i64 3]∧Blk W1 (n0+1+1) 3 #[.int .i64 1]∧Blk W1 (n0+1+1+1) 3 #[.int .i64 7]∧Blk W1 (n0+1+1+1+1) 42 #[.string ⟨#[99,114,97,116,101]⟩,.slice (some ⟨n0,0,none⟩) 1 1,.string ⟨#[69,85,82]⟩,.int .i64 0,.slice (some ⟨n0+1,0,none⟩) 1 1,.string ⟨#[98,111,108,116]⟩,.slice (some ⟨n0+1+1,0,none⟩) 1 1,.string ⟨#[69,85,82]⟩,.int .i64 10,.slice none 0 0,.string ⟨#[115,99,111,112,101]⟩,.slice (some ⟨n0+1+1+1,0,none⟩) 1 1,.string ⟨#[69,85,82]⟩,.int .i64 100,.slice none 0 0])
  (hg:(hW2 W1).grownBy w5 (Value.slice (some ⟨n0+1+1+1+1,0,none⟩) 3 3).ownBlock)(hown:w5.ownsRow n0 42 5 (.slice (some ⟨g5,0,none⟩) 4 cap5) 4 (#[.string ⟨#[99,114,97,116,101]⟩,.slice (some ⟨n0,0,none⟩) 1 1,.string ⟨#[69,85,82]⟩,.int .i64 0,.slice (some ⟨n0+1,0,none⟩) 1 1,.string ⟨#[98,111,108,116]⟩,.slice (some ⟨n0+1+1,0,none⟩) 1 1,.string ⟨#[69,85,82]⟩,.int .i64 10,.slice none 0 0,.string ⟨#[115,99,111,112,101]⟩,.slice (some ⟨n0+1+1+1,0,none⟩) 1 1,.string ⟨#[69,85,82]⟩,.int .i64 100,.slice none 0 0].toList ++[.string ⟨#[107,105,116]⟩,.slice (some ⟨W1.heap.size,0,none⟩) 1 1,.string ⟨#[69,85,82]⟩,.int .i64 30,.slice (some ⟨W1.heap.size+1,0,none⟩) 2 2])):Prods (λb=>b<w5.heap.size) w5 (.slice (some ⟨g5,0,none⟩) 4 cap5) hProds:=by
 obtain⟨a0,a1,a2,a3,a4⟩:=h1;obtain⟨hb2,c0,c1,c2⟩:=h2;have hl:=a4.lt;have q0:=(a0.below hb2 a0.lt).grown hg (λe=>by have e:=Option.some.inj e;change n0+1+1+1+1=_ at e;omega);have q1:=(a1.below hb2 a1.lt).grown hg (λe=>by have e:=Option.some.inj e;change n0+1+1+1+1=_ at e;omega);have q2:=(a2.below hb2 a2.lt).grown hg (λe=>by have e:=Option.some.inj e;change n0+1+1+1+1=_ at e;omega);have q3:=(a3.below hb2 a3.lt).grown hg (λe=>by have e:=Option.some.inj e;change n0+1+1+1+1=_ at e;omega);have q5:=c0.grown hg (λe=>by have e:=Option.some.inj e;change n0+1+1+1+1=_ at e;omega);have q6:=c1.grown hg (λe=>by have e:=Option.some.inj e;change n0+1+1+1+1=_ at e;omega);have i1:=h_int1 q0 (by unfold I64;omega);have i2:=h_int1 q2 (by unfold I64;omega);have i3:=h_int1 q3 (by unfold I64;omega);have i5:=h_int1 q5 (by unfold I64;omega);have p1:=h_comps (l:=[⟨nKit,3⟩]) q1 (by decide) (by intro c hc;simp at hc;subst hc;exact⟨by decide,by unfold I64;dsimp only;omega⟩);have p6:=h_comps (l:=[⟨nBolt,2⟩,⟨nScope,1⟩]) q6 (by decide) (by intro c hc;simp at hc;rcases hc with rfl|rfl<;>exact⟨by decide,by unfold I64;dsimp only;omega⟩);have pn:Comps (λb=>b<w5.heap.size) w5 (.slice none 0 0) []:=⟨⟨none,0,rfl,by simp,by decide,by simp,trivial⟩,by simp⟩;have hf:∀(id:ByteArray)(c:List Int)(u:Int)(l:List CompD),id.size≤100->I64 u->(⟨id,c,nEur,u,l⟩:ProdD).fit :=λid c u l h1 h2=>⟨by show id.size≤_;omega,by show nEur.size≤_;decide,h2⟩
 refine prods_own (csl:=[[.string ⟨#[99,114,97,116,101]⟩,.slice (some ⟨n0,0,none⟩) 1 1,.string ⟨#[69,85,82]⟩,.int .i64 0,.slice (some ⟨n0+1,0,none⟩) 1 1],[.string ⟨#[98,111,108,116]⟩,.slice (some ⟨n0+1+1,0,none⟩) 1 1,.string ⟨#[69,85,82]⟩,.int .i64 10,.slice none 0 0],[.string ⟨#[115,99,111,112,101]⟩,.slice (some ⟨n0+1+1+1,0,none⟩) 1 1,.string ⟨#[69,85,82]⟩,.int .i64 100,.slice none 0 0],[.string ⟨#[107,105,116]⟩,.slice (some ⟨W1.heap.size,0,none⟩) 1 1,.string ⟨#[69,85,82]⟩,.int .i64 30,.slice (some ⟨W1.heap.size+1,0,none⟩) 2 2]]) hown ?_ (by decide) (λb hb=>(hown.lt b hb).2);exact⟨⟨⟨_,_,rfl,i1,p1,hf _ _ _ _ (by decide) (by unfold I64;omega)⟩,rfl⟩,⟨⟨_,_,rfl,i2,pn,hf _ _ _ _ (by decide) (by unfold I64;omega)⟩,rfl⟩,⟨⟨_,_,rfl,i3,pn,hf _ _ _ _ (by decide) (by unfold I64;omega)⟩,rfl⟩,⟨⟨_,_,rfl,i5,p6,hf _ _ _ _ (by decide) (by unfold I64;omega)⟩,rfl⟩,trivial⟩
theorem h_ord{W:World}{v:Value}(h:Prods (λb=>b<W.heap.size) W v hProds):Calls Tryz.prog 15 #[v] W λe w'=>∃B bcap,e= .returned (.tuple #[.slice B 4 bcap,.int .i64 0])∧w'.ownsRow W.heap.size 9 1 (.slice B 4 bcap) 4 ([nBolt,nScope,nKit,nCrate].map .string)∧Row (λb=>W.heap.size≤b) w' B ([nBolt,nScope,nKit,nCrate].map .string)∧Below W.heap.size W w':=by
 refine(order_any _ v hProds W h (λ_ h=>h)).mono ?_;rintro e w6 ⟨vo,rfl,hown,hb⟩;rw[e_order.2]at hown;obtain⟨OB,ocap,rfl,-,-,hrow⟩:=Row.of_own hown (by decide);exact⟨OB,ocap,by rw[e_order.1];rfl,hown,hrow,hb⟩
theorem hd_start{w w5 w6:World}{A B:Option Addr}{cap bcap base:Nat}{xs:List Value}(hp:Prods (λb=>b<w5.heap.size) w5 (.slice A 4 cap) hProds)(hb5:Below w.heap.size w w5)(htab:TabB w.heap.size w)
  (hrow:Row (λb=>base≤b) w6 B ([nBolt,nScope,nKit,nCrate].map .string))(hown:w6.ownsRow base 9 1 (.slice B 4 bcap) 4 xs)(hb:Below w5.heap.size w5 w6):Hd w w6 A cap B bcap:=by
 have hbw:=hb5.trans (hb.mono hb5.size);refine⟨(hp.keep (.of_below hb)).mono λ_ hx=>Nat.lt_of_lt_of_le hx hb.size,⟨_,bcap,rfl,by decide,λhne=> ?_⟩,hbw,(htab.on hbw).mono hbw.size⟩;obtain⟨b,off,e,_,hc⟩:=hrow hne;subst e;exact⟨b,off,rfl,(hown.lt b rfl).2,hc⟩
theorem rt_is{x:Rt × Int}{n:Int}{r:Rt}(h2:x.2=0)(h1:x.1=r):x=(r,0):=Prod.ext h1 h2
theorem e_vR:valueP tabT hProds [] nEur nCrate 0=(ofR 450 1,0):=Prod.ext (by
 obtain⟨h1,h2,h3⟩:=e_v1;have e:ofR 450 1=⟨false,450,1⟩:=by decide+kernel
 rw[e];generalize (valueP tabT hProds [] nEur nCrate 0).1=x at*;obtain⟨a,b,c⟩:=x;simp only at h1 h2 h3
 rw[h1,h2,h3]) e_v
theorem e_cR:controlP tabT hProds [] nEur nCrate 0=(ofR 300 1,0):=Prod.ext (by
 obtain⟨_,h1,h2,h3⟩:=e_c;have e:ofR 300 1=⟨false,300,1⟩:=by decide+kernel
 rw[e];generalize (controlP tabT hProds [] nEur nCrate 0).1=x at*;obtain⟨a,b,c⟩:=x;simp only at h1 h2 h3
 rw[h1,h2,h3]) e_c.1
theorem e_cR2:controlP tabT hProds [] nEur nBolt 0=(ofR 0 1,0):=Prod.ext (by
 obtain⟨_,h1,h2,h3⟩:=e_c2;have e:ofR 0 1=⟨false,0,1⟩:=by decide+kernel
 rw[e];generalize (controlP tabT hProds [] nEur nBolt 0).1=x at*;obtain⟨a,b,c⟩:=x;simp only at h1 h2 h3
 rw[h1,h2,h3]) e_c2.1
end
end Go.Proofs.YtimmfbnjndndlaaGreatDoor
