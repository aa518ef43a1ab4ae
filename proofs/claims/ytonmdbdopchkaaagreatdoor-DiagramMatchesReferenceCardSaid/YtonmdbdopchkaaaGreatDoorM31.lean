/- Texts W55 W21. -/
import Derived.Test.YtonmdbdopchkaaaGreatDoorM26
import Derived.Test.YtonmdbdopchkaaaGreatDoorM25
set_option linter.all false
namespace Go.Proofs.YtonmdbdopchkaaaGreatDoor
open Go.RowKit
set_option maxHeartbeats 8000000
set_option maxRecDepth 100000
theorem Tryz.egTests:∀args w,(callFunc 99 args).run Tryz.prog w= .ok (.enter 99 args) w:=enters_of Tryz.func99 (by kernel_rfl) rfl
def zBz(n:Int):Int:=if n=9223372036854775807 then-9223372036854775808 else n+1
theorem zNp{n:Int}(h:I64 n):I64 (zBz n):=by
 unfold zBz;have h1:=h.1;have h2:=h.2;split
 ·constructor<;>omega
 ·constructor<;>omega
theorem zTC:wrap64 9223372036854775808= -9223372036854775808:=by decide+kernel
mutual
def zCA(nm:ByteArray)(lo hi:Int):Fm->List Int->List Int
 | .mk op n _ nu kids,l=>zAN nm lo hi kids (if op=3∧n=nm then zAr (zAr l nu lo hi) (zBz nu) lo hi else l)
def zAN(nm:ByteArray)(lo hi:Int):List Fm->List Int->List Int
 |[],l=>l
 |k::r,l=>zAN nm lo hi r (zCA nm lo hi k l)
end
theorem zFF(l:List Int)(n lo hi:Int):(zAr l n lo hi).length ≤l.length+1:=by
 have hi':∀(l:List Int)(n:Int),(zAE l n).length ≤l.length+1:=by
  intro l n
  induction l with
  |nil=>simp[zAE]
  |cons a r ih=>unfold zAE;split<;>(try split)<;>simp<;>omega
 unfold zAr;split
 ·omega
 ·exact hi' l n
theorem zGB{l:List Int}(n lo hi:Int)(h:l≠[]):zAr l n lo hi≠[]:=by
 unfold zAr;split
 ·exact h
 ·cases l with
  |nil=>exact absurd rfl h
  |cons a r=>unfold zAE;split<;>(try split)<;>simp
mutual
theorem zKr(nm:ByteArray)(lo hi:Int):∀(f:Fm)(l:List Int),(zCA nm lo hi f l).length ≤l.length+2*zJ f∧(l≠[]->zCA nm lo hi f l≠[])
 | .mk op n cm nu kids,l=>by
  rw[zCA,zJ];have h1:=zFF l nu lo hi;have h2:=zFF (zAr l nu lo hi) (zBz nu) lo hi;split
  ·obtain⟨h3,h4⟩:=zCo nm lo hi kids (zAr (zAr l nu lo hi) (zBz nu) lo hi);exact⟨by omega,λh=>h4 (zGB _ _ _ (zGB _ _ _ h))⟩
  ·obtain⟨h3,h4⟩:=zCo nm lo hi kids l;exact⟨by omega,h4⟩
theorem zCo(nm:ByteArray)(lo hi:Int):∀(r:List Fm)(l:List Int),(zAN nm lo hi r l).length ≤l.length+2*zX r∧(l≠[]->zAN nm lo hi r l≠[])
 |[],l=>by rw[zAN,zX];exact⟨by omega,λh=>h⟩
 |k::r,l=>by
  rw[zAN,zX];obtain⟨h1,h2⟩:=zKr nm lo hi k l;obtain⟨h3,h4⟩:=zCo nm lo hi r (zCA nm lo hi k l);exact⟨by omega,λh=>h4 (h2 h)⟩
end
theorem zDe(nm:ByteArray)(lo hi:Int):∀(l:List Fm)(k:Nat)(hk:k<l.length)(xs:List Int),zAN nm lo hi (l.take (k+1)) xs=zCA nm lo hi l[k] (zAN nm lo hi (l.take k) xs)
 |a::r,0,_,xs=>by simp[zAN]
 |a::r,k+1,hk,xs=>by
  have:=zDe nm lo hi r k (by simpa using hk) (zCA nm lo hi a xs);simp only[List.take_succ_cons,zAN,List.getElem_cons_succ];exact this
theorem zNq(nm:ByteArray)(lo hi:Int):∀(m:Nat)(f:Fm),zJ f≤m->∀(Z Zl:zD)(cs:List Value)(vl:Value)(l:List Int)(w:World),FmR Z w f cs->zL Zl w vl l->l≠[]->l.length+2*zJ f≤1000000->
  Calls Tryz.prog 99 #[.agg cs.toArray,.string nm,.int .i64 lo,.int .i64 hi,vl] w λe w'=>∃v',e= .returned v'∧zL (λb=>Zl b∨w.heap.size≤b) w' v' (zCA nm lo hi f l)∧Below w.heap.size w w':=by
 intro m
 induction m with
 |zero=>intro f hm;have:=zBE f;omega
 |succ m ih=>
 intro f hm Z Zl cs vl l w hf hl hne hlen;have eg:=Tryz.egTests;have IH:=hid ih;clear ih;have HU:=hid (show zCA nm lo hi f l=zAN nm lo hi f.kids (if f.op=3∧f.name=nm then zAr (zAr l f.num lo hi) (zBz f.num) lo hi else l) from by cases f;rw[zCA];rfl);have hfs:=zBM f;have hnum:I64 f.num:=by cases f;unfold FmR at hf;exact hf.2.2.2.1
 obtain⟨A,cap,rfl⟩:=FmR.form hf;have hks:zAT (λcs f=>FmR Z w f cs) 5 Z w f.kids A:=by cases f;unfold FmR at hf;obtain⟨_,_,_,_,A',cap',e,_,_,_,h⟩:=hf;injection e with _ e;injection e with _ e;injection e with _ e;injection e with _ e;injection e with e;injection e with e;subst e;exact zt.seq h
 have hkl:f.kids.length≤1000000:=by have:=zA8 f.kids;omega
 have HS:=hid hks;have HM:=hid (And.intro hm (And.intro hlen hfs));have HL:=hid hl;have hb0:=zE w (.cells #[.int .i64 f.op,.string f.name,.int .i64 f.cmp,.int .i64 f.num,.slice A f.kids.length cap] 24);have hbx:=Blk.new w 24 #[.int .i64 f.op,.string f.name,.int .i64 f.cmp,.int .i64 f.num,.slice A f.kids.length cap];have hwl:w.heap.size<(w.alloc (.cells #[.int .i64 f.op,.string f.name,.int .i64 f.cmp,.int .i64 f.num,.slice A f.kids.length cap] 24)).heap.size :=by simp
 have zZ:=hid (And.intro hb0 hbx);clear hf hks hl hb0 hbx hm hlen hfs;go_enter Tryz.func99,Tryz.ntmps99
 by_cases hc:f.op=3∧f.name=nm
 ·have HR:=hid (HU.out.trans (by rw[if_pos hc]));have e1:(f.op==(3:Int))=true:=by simp[hc.1]
  have e2:(f.name.toList==nm.toList)=true:=by rw[zAq];simp[hc.2]
  clear hc HU;by_cases hmax:f.num=9223372036854775807
  ·(have hsu:zBz f.num= -9223372036854775808:=by unfold zBz;rw[if_pos hmax]);have HSU:=hid hsu;have zW4:=hid hmax;clear hmax hsu;have b0:(w.alloc (.cells #[.int .i64 f.op,.string f.name,.int .i64 f.cmp,.int .i64 f.num,.slice A f.kids.length cap] 24)).cell? ⟨w.heap.size,0,none⟩=some (.int .i64 f.op):=zZ.out.2.cell 0;have b1:(w.alloc (.cells #[.int .i64 f.op,.string f.name,.int .i64 f.cmp,.int .i64 f.num,.slice A f.kids.length cap] 24)).cell? ⟨w.heap.size,1,none⟩=some (.string f.name):=zZ.out.2.cell 1;have b3:(w.alloc (.cells #[.int .i64 f.op,.string f.name,.int .i64 f.cmp,.int .i64 f.num,.slice A f.kids.length cap] 24)).cell? ⟨w.heap.size,3,none⟩=some (.int .i64 f.num):=zZ.out.2.cell 3;have HP1:=hid (zDv Zl vl l f.num lo hi _ (HL.out.keep (zA.of_below zZ.out.1)) hne (by have:=HM.out;omega) hnum);(go_wp2_with fail);refine HP1.out.mono ?_;rintro e w1 ⟨v1,rfl,hin1,hb1⟩;have hx1:=zZ.out.2.below hb1 zZ.out.2.lt;have hbw1:=zZ.out.1.trans (hb1.mono zZ.out.1.size);have hpl1:=zFF l f.num lo hi;have hpn1:=zGB f.num lo hi hne
   have hin1':zL (λb=>Zl b∨w.heap.size≤b) w1 v1 (zAr l f.num lo hi):=hin1.mono λb hb=>by
    rcases hb with hb|hb
    ·exact Or.inl hb
    ·exact Or.inr (by omega)
   have HP2:=hid (zDv _ v1 (zAr l f.num lo hi) (zBz f.num) lo hi w1 hin1' hpn1 (by have:=HM.out;omega) (zNp hnum));rw[show(#[v1,.int .i64 (zBz f.num),.int .i64 lo,.int .i64 hi]:Array Value)=#[v1,.int .i64 (wrap64 9223372036854775808),.int .i64 lo,.int .i64 hi] from by rw[HSU.out,zTC]]at HP2;have HW1:=hid (And.intro hbw1 (And.intro hx1 (And.intro hpl1 hpn1)));clear b0 b1 b3 hin1 hin1' hb1 hx1 hbw1 HP1;have b3:=HW1.out.2.1.at3;have b3l:=HW1.out.2.1.lt;rw[zW4.out]at b3;(go_wp2_with fail);refine HP2.out.mono ?_;rintro e w2 ⟨v2,rfl,hin2,hb2⟩;have hbx:=HW1.out.2.1.below hb2 HW1.out.2.1.lt;have hb0:=HW1.out.1.trans (hb2.mono HW1.out.1.size)
   have hints:zL (λb=>Zl b∨w.heap.size≤b) w2 v2 (zAr (zAr l f.num lo hi) (zBz f.num) lo hi):=hin2.mono λb hb=>by
    have:=HW1.out.1.size;rcases hb with hb|hb
    ·exact hb
    ·exact Or.inr (by omega)
   have hne0:=zGB (zBz f.num) lo hi hpn1;(have hlen0:(zAr (zAr l f.num lo hi) (zBz f.num) lo hi).length ≤l.length+2:=by have:=zFF (zAr l f.num lo hi) (zBz f.num) lo hi;omega);clear hin2 hb2 HP2 b3 b3l hpl1 hpn1;generalize zAr (zAr l f.num lo hi) (zBz f.num) lo hi=l0 at*;have HB0:=hid hb0;have hfm:=hbx.cell 4;have hfl:=hbx.lt;have HL0:=hid (And.intro hints (And.intro hne0 hlen0));have zKO:=hid hbx;have b4:=hbx.at4;clear hb0 hbx hints hne0 hlen0 hfm;go_wp2;clear b4 hfl;go_loopw[4,11] (λvv ix wr=>∃(k:Nat)(v2:Value),k≤f.kids.length∧ix= .int .i64 k∧v2=vv∧zL (λb=>Zl b∨w.heap.size≤b) wr v2 (zAN nm lo hi (f.kids.take k) l0)∧Below w.heap.size w wr∧Blk wr w.heap.size 24 #[.int .i64 f.op,.string f.name,.int .i64 f.cmp,.int .i64 f.num,.slice A f.kids.length cap]) (λ_ ix _=>f.kids.length-(intOf ix).toNat);case atStart=>exact⟨0,_,Nat.zero_le _,rfl,rfl,HL0.out.1,HB0.out,zKO.out⟩
   case round=>
    obtain⟨k,v2,hk,rfl,rfl,hin,hbel,hbx⟩:=hrel;have b4:=hbx.at4;have b4l:=hbx.lt;have HB:=hid (And.intro hbel hbx);by_cases hlt:k<f.kids.length
    ·obtain⟨b',off,cs,rfl,hz,hcs,hfk⟩:=HS.out.at_ hlt;have hkz:zA Z w wr:= .of_below hbel;have hfk':=FmR.keep hkz _ _ hfk;obtain⟨A',cap',rfl⟩:=FmR.form hfk;have hle:=zAY hlt;obtain⟨c0,c1,c2,c3,c4⟩:=zp (λj u hu=>hkz.cell (p:=⟨b',off+k*5+j,none⟩) hz (hcs j u hu));have cl:=lt_of_cell c0;have hts:=zAL hlt;have htl:=zAU f.kids (k+1);have htn:=zCo nm lo hi (f.kids.take k) l0;have zN:=hid (IH.out f.kids[k] (by have:=HM.out;omega) Z _ _ v2 (zAN nm lo hi (f.kids.take k) l0) wr hfk' hin (htn.2 HL0.out.2.1) (by have h1:=HM.out;have h2:=HL0.out.2.2;have h3:=htn.1;omega));rw[<-zDe nm lo hi f.kids k hlt l0]at zN;(have hk1:((k:Nat):Int)<(f.kids.length:Int):=by omega);clear hin hcs hfk hfk' hkz hle hbx hbel hts htl htn;generalize f.kids[k]=g at*;(go_wp2_with fail);refine zN.out.mono ?_;rintro e w1 ⟨v3,rfl,hin3,hb1⟩;have hx:=HB.out.2.below hb1 HB.out.2.lt;have hbw:=HB.out.1.trans (hb1.mono HB.out.1.size)
     have H3:=hid (show zL (λb=>Zl b∨w.heap.size≤b) w1 v3 (zAN nm lo hi (f.kids.take (k+1)) l0) from hin3.mono λb hb=>by
      rcases hb with hb|hb
      ·exact hb
      ·exact Or.inr (Nat.le_trans HB.out.1.size hb))
     clear hb1 hin3;go_wp2;go_roundw;(case rel=>exact⟨k+1,v3,by omega,by go_num,rfl,H3.out,hbw,hx⟩);case measure=>simp[intOf];omega
    ·(obtain rfl:k=f.kids.length:=by omega);rw[List.take_length]at hin;have HIN:=hid hin;clear hin hbel hbx;go_wp2;go_ret;rw[HR.out];exact⟨_,rfl,HIN.out,HB.out.1⟩
  ·(have hsu:zBz f.num=f.num+1:=by unfold zBz;rw[if_neg hmax]);have HSU:=hid hsu;clear hsu;have hn1:=hnum.1;have hn2:=hnum.2;have b0:(w.alloc (.cells #[.int .i64 f.op,.string f.name,.int .i64 f.cmp,.int .i64 f.num,.slice A f.kids.length cap] 24)).cell? ⟨w.heap.size,0,none⟩=some (.int .i64 f.op):=zZ.out.2.cell 0;have b1:(w.alloc (.cells #[.int .i64 f.op,.string f.name,.int .i64 f.cmp,.int .i64 f.num,.slice A f.kids.length cap] 24)).cell? ⟨w.heap.size,1,none⟩=some (.string f.name):=zZ.out.2.cell 1;have b3:(w.alloc (.cells #[.int .i64 f.op,.string f.name,.int .i64 f.cmp,.int .i64 f.num,.slice A f.kids.length cap] 24)).cell? ⟨w.heap.size,3,none⟩=some (.int .i64 f.num):=zZ.out.2.cell 3;have HP1:=hid (zDv Zl vl l f.num lo hi _ (HL.out.keep (zA.of_below zZ.out.1)) hne (by have:=HM.out;omega) hnum);(go_wp2_with fail);refine HP1.out.mono ?_;rintro e w1 ⟨v1,rfl,hin1,hb1⟩;have hx1:=zZ.out.2.below hb1 zZ.out.2.lt;have hbw1:=zZ.out.1.trans (hb1.mono zZ.out.1.size);have hpl1:=zFF l f.num lo hi;have hpn1:=zGB f.num lo hi hne
   have hin1':zL (λb=>Zl b∨w.heap.size≤b) w1 v1 (zAr l f.num lo hi):=hin1.mono λb hb=>by
    rcases hb with hb|hb
    ·exact Or.inl hb
    ·exact Or.inr (by omega)
   have HP2:=hid (zDv _ v1 (zAr l f.num lo hi) (zBz f.num) lo hi w1 hin1' hpn1 (by have:=HM.out;omega) (zNp hnum));rw[show(#[v1,.int .i64 (zBz f.num),.int .i64 lo,.int .i64 hi]:Array Value)=#[v1,.int .i64 (f.num+1),.int .i64 lo,.int .i64 hi] from by rw[HSU.out]]at HP2;have HW1:=hid (And.intro hbw1 (And.intro hx1 (And.intro hpl1 hpn1)));clear b0 b1 b3 hin1 hin1' hb1 hx1 hbw1 HP1;have b3:=HW1.out.2.1.at3;have b3l:=HW1.out.2.1.lt;(go_wp2_with fail);refine HP2.out.mono ?_;rintro e w2 ⟨v2,rfl,hin2,hb2⟩;have hbx:=HW1.out.2.1.below hb2 HW1.out.2.1.lt;have hb0:=HW1.out.1.trans (hb2.mono HW1.out.1.size)
   have hints:zL (λb=>Zl b∨w.heap.size≤b) w2 v2 (zAr (zAr l f.num lo hi) (zBz f.num) lo hi):=hin2.mono λb hb=>by
    have:=HW1.out.1.size;rcases hb with hb|hb
    ·exact hb
    ·exact Or.inr (by omega)
   have hne0:=zGB (zBz f.num) lo hi hpn1;(have hlen0:(zAr (zAr l f.num lo hi) (zBz f.num) lo hi).length ≤l.length+2:=by have:=zFF (zAr l f.num lo hi) (zBz f.num) lo hi;omega);clear hin2 hb2 HP2 b3 b3l hpl1 hpn1;generalize zAr (zAr l f.num lo hi) (zBz f.num) lo hi=l0 at*;have HB0:=hid hb0;have hfm:=hbx.cell 4;have hfl:=hbx.lt;have HL0:=hid (And.intro hints (And.intro hne0 hlen0));have zKO:=hid hbx;have b4:=hbx.at4;clear hb0 hbx hints hne0 hlen0 hfm;go_wp2;clear b4 hfl;go_loopw[4,11] (λvv ix wr=>∃(k:Nat)(v2:Value),k≤f.kids.length∧ix= .int .i64 k∧v2=vv∧zL (λb=>Zl b∨w.heap.size≤b) wr v2 (zAN nm lo hi (f.kids.take k) l0)∧Below w.heap.size w wr∧Blk wr w.heap.size 24 #[.int .i64 f.op,.string f.name,.int .i64 f.cmp,.int .i64 f.num,.slice A f.kids.length cap]) (λ_ ix _=>f.kids.length-(intOf ix).toNat);case atStart=>exact⟨0,_,Nat.zero_le _,rfl,rfl,HL0.out.1,HB0.out,zKO.out⟩
   case round=>
    obtain⟨k,v2,hk,rfl,rfl,hin,hbel,hbx⟩:=hrel;have b4:=hbx.at4;have b4l:=hbx.lt;have HB:=hid (And.intro hbel hbx);by_cases hlt:k<f.kids.length
    ·obtain⟨b',off,cs,rfl,hz,hcs,hfk⟩:=HS.out.at_ hlt;have hkz:zA Z w wr:= .of_below hbel;have hfk':=FmR.keep hkz _ _ hfk;obtain⟨A',cap',rfl⟩:=FmR.form hfk;have hle:=zAY hlt;obtain⟨c0,c1,c2,c3,c4⟩:=zp (λj u hu=>hkz.cell (p:=⟨b',off+k*5+j,none⟩) hz (hcs j u hu));have cl:=lt_of_cell c0;have hts:=zAL hlt;have htl:=zAU f.kids (k+1);have htn:=zCo nm lo hi (f.kids.take k) l0;have zN:=hid (IH.out f.kids[k] (by have:=HM.out;omega) Z _ _ v2 (zAN nm lo hi (f.kids.take k) l0) wr hfk' hin (htn.2 HL0.out.2.1) (by have h1:=HM.out;have h2:=HL0.out.2.2;have h3:=htn.1;omega));rw[<-zDe nm lo hi f.kids k hlt l0]at zN;(have hk1:((k:Nat):Int)<(f.kids.length:Int):=by omega);clear hin hcs hfk hfk' hkz hle hbx hbel hts htl htn;generalize f.kids[k]=g at*;(go_wp2_with fail);refine zN.out.mono ?_;rintro e w1 ⟨v3,rfl,hin3,hb1⟩;have hx:=HB.out.2.below hb1 HB.out.2.lt;have hbw:=HB.out.1.trans (hb1.mono HB.out.1.size)
     have H3:=hid (show zL (λb=>Zl b∨w.heap.size≤b) w1 v3 (zAN nm lo hi (f.kids.take (k+1)) l0) from hin3.mono λb hb=>by
      rcases hb with hb|hb
      ·exact hb
      ·exact Or.inr (Nat.le_trans HB.out.1.size hb))
     clear hb1 hin3;go_wp2;go_roundw;(case rel=>exact⟨k+1,v3,by omega,by go_num,rfl,H3.out,hbw,hx⟩);case measure=>simp[intOf];omega
    ·(obtain rfl:k=f.kids.length:=by omega);rw[List.take_length]at hin;have HIN:=hid hin;clear hin hbel hbx;go_wp2;go_ret;rw[HR.out];exact⟨_,rfl,HIN.out,HB.out.1⟩
 ·have HR:=hid (HU.out.trans (by rw[if_neg hc]));by_cases h3:f.op=3
  ·(have e1:(f.op==(3:Int))=true:=by simp[h3]);(have e2:(f.name.toList==nm.toList)=false:=by rw[zAq];simp;exact λe=>hc ⟨h3,e⟩);clear hc h3 HU;have b0:(w.alloc (.cells #[.int .i64 f.op,.string f.name,.int .i64 f.cmp,.int .i64 f.num,.slice A f.kids.length cap] 24)).cell? ⟨w.heap.size,0,none⟩=some (.int .i64 f.op):=zZ.out.2.cell 0;have b1:(w.alloc (.cells #[.int .i64 f.op,.string f.name,.int .i64 f.cmp,.int .i64 f.num,.slice A f.kids.length cap] 24)).cell? ⟨w.heap.size,1,none⟩=some (.string f.name):=zZ.out.2.cell 1;have hints:=(HL.out.keep (zA.of_below zZ.out.1)).mono (λb hb=>Or.inl hb:∀b,Zl b->Zl b∨w.heap.size≤b);have hb0:=zZ.out.1;have hbx:=zZ.out.2;have hne0:=hne;(have hlen0:l.length≤l.length+2:=by omega);obtain⟨l0,hl0⟩:∃l0,l0=l:=⟨l,rfl⟩;rw[<-hl0]at hints hne0;have HR2:=hid (show zCA nm lo hi f l=zAN nm lo hi f.kids l0 from by rw[hl0];exact HR.out);clear HR;have HR:=HR2;(have hlen0:l0.length≤l.length+2:=by rw[hl0];omega);clear hl0;have HB0:=hid hb0;have hfm:=hbx.cell 4;have hfl:=hbx.lt;have HL0:=hid (And.intro hints (And.intro hne0 hlen0));have zKO:=hid hbx;have b4:(w.alloc (.cells #[.int .i64 f.op,.string f.name,.int .i64 f.cmp,.int .i64 f.num,.slice A f.kids.length cap] 24)).cell? ⟨w.heap.size,4,none⟩=some (.slice A f.kids.length cap):=hbx.cell 4;clear hb0 hbx hints hne0 hlen0 hfm;go_wp2;clear b4 hfl;go_loopw[4,11] (λvv ix wr=>∃(k:Nat)(v2:Value),k≤f.kids.length∧ix= .int .i64 k∧v2=vv∧zL (λb=>Zl b∨w.heap.size≤b) wr v2 (zAN nm lo hi (f.kids.take k) l0)∧Below w.heap.size w wr∧Blk wr w.heap.size 24 #[.int .i64 f.op,.string f.name,.int .i64 f.cmp,.int .i64 f.num,.slice A f.kids.length cap]) (λ_ ix _=>f.kids.length-(intOf ix).toNat);case atStart=>exact⟨0,_,Nat.zero_le _,rfl,rfl,HL0.out.1,HB0.out,zKO.out⟩
   case round=>
    obtain⟨k,v2,hk,rfl,rfl,hin,hbel,hbx⟩:=hrel;have b4:=hbx.at4;have b4l:=hbx.lt;have HB:=hid (And.intro hbel hbx);by_cases hlt:k<f.kids.length
    ·obtain⟨b',off,cs,rfl,hz,hcs,hfk⟩:=HS.out.at_ hlt;have hkz:zA Z w wr:= .of_below hbel;have hfk':=FmR.keep hkz _ _ hfk;obtain⟨A',cap',rfl⟩:=FmR.form hfk;have hle:=zAY hlt;obtain⟨c0,c1,c2,c3,c4⟩:=zp (λj u hu=>hkz.cell (p:=⟨b',off+k*5+j,none⟩) hz (hcs j u hu));have cl:=lt_of_cell c0;have hts:=zAL hlt;have htl:=zAU f.kids (k+1);have htn:=zCo nm lo hi (f.kids.take k) l0;have zN:=hid (IH.out f.kids[k] (by have:=HM.out;omega) Z _ _ v2 (zAN nm lo hi (f.kids.take k) l0) wr hfk' hin (htn.2 HL0.out.2.1) (by have h1:=HM.out;have h2:=HL0.out.2.2;have h3:=htn.1;omega));rw[<-zDe nm lo hi f.kids k hlt l0]at zN;(have hk1:((k:Nat):Int)<(f.kids.length:Int):=by omega);clear hin hcs hfk hfk' hkz hle hbx hbel hts htl htn;generalize f.kids[k]=g at*;(go_wp2_with fail);refine zN.out.mono ?_;rintro e w1 ⟨v3,rfl,hin3,hb1⟩;have hx:=HB.out.2.below hb1 HB.out.2.lt;have hbw:=HB.out.1.trans (hb1.mono HB.out.1.size)
     have H3:=hid (show zL (λb=>Zl b∨w.heap.size≤b) w1 v3 (zAN nm lo hi (f.kids.take (k+1)) l0) from hin3.mono λb hb=>by
      rcases hb with hb|hb
      ·exact hb
      ·exact Or.inr (Nat.le_trans HB.out.1.size hb))
     clear hb1 hin3;go_wp2;go_roundw;(case rel=>exact⟨k+1,v3,by omega,by go_num,rfl,H3.out,hbw,hx⟩);case measure=>simp[intOf];omega
    ·(obtain rfl:k=f.kids.length:=by omega);rw[List.take_length]at hin;have HIN:=hid hin;clear hin hbel hbx;go_wp2;go_ret;rw[HR.out];exact⟨_,rfl,HIN.out,HB.out.1⟩
  ·(have e1:(f.op==(3:Int))=false:=by simp[h3]);clear hc h3 HU;have b0:(w.alloc (.cells #[.int .i64 f.op,.string f.name,.int .i64 f.cmp,.int .i64 f.num,.slice A f.kids.length cap] 24)).cell? ⟨w.heap.size,0,none⟩=some (.int .i64 f.op):=zZ.out.2.cell 0;have b1:(w.alloc (.cells #[.int .i64 f.op,.string f.name,.int .i64 f.cmp,.int .i64 f.num,.slice A f.kids.length cap] 24)).cell? ⟨w.heap.size,1,none⟩=some (.string f.name):=zZ.out.2.cell 1;have hints:=(HL.out.keep (zA.of_below zZ.out.1)).mono (λb hb=>Or.inl hb:∀b,Zl b->Zl b∨w.heap.size≤b);have hb0:=zZ.out.1;have hbx:=zZ.out.2;have hne0:=hne;(have hlen0:l.length≤l.length+2:=by omega);obtain⟨l0,hl0⟩:∃l0,l0=l:=⟨l,rfl⟩;rw[<-hl0]at hints hne0;have HR2:=hid (show zCA nm lo hi f l=zAN nm lo hi f.kids l0 from by rw[hl0];exact HR.out);clear HR;have HR:=HR2;(have hlen0:l0.length≤l.length+2:=by rw[hl0];omega);clear hl0;have HB0:=hid hb0;have hfm:=hbx.cell 4;have hfl:=hbx.lt;have HL0:=hid (And.intro hints (And.intro hne0 hlen0));have zKO:=hid hbx;have b4:(w.alloc (.cells #[.int .i64 f.op,.string f.name,.int .i64 f.cmp,.int .i64 f.num,.slice A f.kids.length cap] 24)).cell? ⟨w.heap.size,4,none⟩=some (.slice A f.kids.length cap):=hbx.cell 4;clear hb0 hbx hints hne0 hlen0 hfm;go_wp2;clear b4 hfl;go_loopw[4,11] (λvv ix wr=>∃(k:Nat)(v2:Value),k≤f.kids.length∧ix= .int .i64 k∧v2=vv∧zL (λb=>Zl b∨w.heap.size≤b) wr v2 (zAN nm lo hi (f.kids.take k) l0)∧Below w.heap.size w wr∧Blk wr w.heap.size 24 #[.int .i64 f.op,.string f.name,.int .i64 f.cmp,.int .i64 f.num,.slice A f.kids.length cap]) (λ_ ix _=>f.kids.length-(intOf ix).toNat);case atStart=>exact⟨0,_,Nat.zero_le _,rfl,rfl,HL0.out.1,HB0.out,zKO.out⟩
   case round=>
    obtain⟨k,v2,hk,rfl,rfl,hin,hbel,hbx⟩:=hrel;have b4:=hbx.at4;have b4l:=hbx.lt;have HB:=hid (And.intro hbel hbx);by_cases hlt:k<f.kids.length
    ·obtain⟨b',off,cs,rfl,hz,hcs,hfk⟩:=HS.out.at_ hlt;have hkz:zA Z w wr:= .of_below hbel;have hfk':=FmR.keep hkz _ _ hfk;obtain⟨A',cap',rfl⟩:=FmR.form hfk;have hle:=zAY hlt;obtain⟨c0,c1,c2,c3,c4⟩:=zp (λj u hu=>hkz.cell (p:=⟨b',off+k*5+j,none⟩) hz (hcs j u hu));have cl:=lt_of_cell c0;have hts:=zAL hlt;have htl:=zAU f.kids (k+1);have htn:=zCo nm lo hi (f.kids.take k) l0;have zN:=hid (IH.out f.kids[k] (by have:=HM.out;omega) Z _ _ v2 (zAN nm lo hi (f.kids.take k) l0) wr hfk' hin (htn.2 HL0.out.2.1) (by have h1:=HM.out;have h2:=HL0.out.2.2;have h3:=htn.1;omega));rw[<-zDe nm lo hi f.kids k hlt l0]at zN;(have hk1:((k:Nat):Int)<(f.kids.length:Int):=by omega);clear hin hcs hfk hfk' hkz hle hbx hbel hts htl htn;generalize f.kids[k]=g at*;(go_wp2_with fail);refine zN.out.mono ?_;rintro e w1 ⟨v3,rfl,hin3,hb1⟩;have hx:=HB.out.2.below hb1 HB.out.2.lt;have hbw:=HB.out.1.trans (hb1.mono HB.out.1.size)
     have H3:=hid (show zL (λb=>Zl b∨w.heap.size≤b) w1 v3 (zAN nm lo hi (f.kids.take (k+1)) l0) from hin3.mono λb hb=>by
      rcases hb with hb|hb
      ·exact hb
      ·exact Or.inr (Nat.le_trans HB.out.1.size hb))
     clear hb1 hin3;go_wp2;go_roundw;(case rel=>exact⟨k+1,v3,by omega,by go_num,rfl,H3.out,hbw,hx⟩);case measure=>simp[intOf];omega
    ·(obtain rfl:k=f.kids.length:=by omega);rw[List.take_length]at hin;have HIN:=hid hin;clear hin hbel hbx;go_wp2;go_ret;rw[HR.out];exact⟨_,rfl,HIN.out,HB.out.1⟩
theorem zNr(nm:ByteArray)(x:Int)(ds:List zC)(m:Nat)(ih:zPf nm x ds m)(f:Fm)(hm:zJ f≤m+1)(hM:zJ f≤1000000)(Z:zD)(A:Option Addr)(cap:Nat)(w:World)(hf:FmR Z w f [.int .i64 f.op,.string f.name,.int .i64 f.cmp,.int .i64 f.num,.slice A f.kids.length cap])(hok:zq (zY ds) f=0)(h5:f.op=5):
  Calls Tryz.prog 35 #[.agg [.int .i64 f.op,.string f.name,.int .i64 f.cmp,.int .i64 f.num,.slice A f.kids.length cap].toArray,.string nm,.int .i64 x] w (zDc Z (zU nm x f) w):=by
 have IH:=hid ih;clear ih;obtain⟨h0,hks⟩:=zDT hok;obtain⟨hkids,hkl⟩:=zKC hf;have hkM:f.kids.length≤1000000:=by have:=zA8 f.kids;have:=zBM f;omega
 have hlen:(zw nm x f.kids).length =f.kids.length:=by rw[zEg];simp
 have hget:∀k(hk:k<f.kids.length)(hk':k<(zw nm x f.kids).length),(zw nm x f.kids)[k]=zU nm x f.kids[k]:=λk hk hk'=>by simp[zEg]
 have hend:zU nm x f=zBt 5 (zw nm x f.kids):=by rw[zIV,if_neg (by omega),if_neg (by omega),if_pos (by omega),h5]
 have HG:=hid hend;have HKS:=hid hks;have HHG:=hid hget;have HS:=hid hkids;have HLT:=hid (λ(k:Nat)(hk:k<f.kids.length)=>zIO hk);have HLL:=hid hlen;clear hks hkids h0 hf hend hget hlen hok;generalize zw nm x f.kids=ks at*;go_enter Tryz.func35,Tryz.ntmps35
 go_wp2;go_loopw[10,12,63] (λv _ i wr=>∃k:Nat,k≤f.kids.length∧i= .int .i64 k∧(∀j(hj:j<ks.length),j<k->ks[j].op ≠zDt 5)∧zBP (λb=>(Z b∧b<w.heap.size)∨w.heap.size+2≤b) (w.heap.size+2) wr v (zBL 5 (ks.take k))∧(Blk wr (w.heap.size+1) 24 #[.int .i64 0,.string ⟨#[]⟩,.int .i64 0,.int .i64 0,.slice none 0 0]∧Blk wr w.heap.size 24 #[.int .i64 5,.string f.name,.int .i64 f.cmp,.int .i64 f.num,.slice A f.kids.length cap])∧Below w.heap.size w wr∧w.heap.size+2≤wr.heap.size) (λ_ _ i _=>f.kids.length-(intOf i).toNat)
 case atStart=>
  refine⟨0,Nat.zero_le _,rfl,λj _ h=>absurd h (Nat.not_lt_zero _),zBP.nil _ _ _,?_,zAy w _ _,by simp⟩;have:=Blk.new (w.alloc (.cells #[.int .i64 f.op,.string f.name,.int .i64 f.cmp,.int .i64 f.num,.slice A f.kids.length cap] 24)) 24 #[.int .i64 0,.string ⟨#[]⟩,.int .i64 0,.int .i64 0,.slice none 0 0];simp only[World.size_alloc]at this;have that:=(Blk.new w 24 #[.int .i64 f.op,.string f.name,.int .i64 f.cmp,.int .i64 f.num,.slice A f.kids.length cap]).alloc (.cells #[.int .i64 0,.string ⟨#[]⟩,.int .i64 0,.int .i64 0,.slice none 0 0] 24);rw[h5]at this that;exact⟨this,that⟩
 case round=>
  obtain⟨k,hk,rfl,hnz,hown,hblk,hbel,hsz⟩:=hrel;obtain⟨oA,ocap,rfl,-,-,-⟩:=zBP.done hown;by_cases hlt:k<f.kids.length
  ·obtain⟨b,off,cs,rfl,hz,hcs,hfk⟩:=HS.out.at_ hlt;have hlv:=FmR.live _ _ hfk;obtain⟨A',cap',rfl⟩:=FmR.form hfk;obtain⟨c0,c1,c2,c3,c4⟩:=zp (λj u hu=>(zA.of_below (Z:=Z) hbel).cell (p:=⟨b,off+k*5+j,none⟩) hz (hcs j u hu));have HC:=hid (λW(h:Below w.heap.size w W)=>IH.out f.kids[k] (by have:=HLT.out k hlt;omega) (by have:=HLT.out k hlt;omega) (λb=>Z b∧b<w.heap.size) _ W (FmR.keep (.of_below h) _ _ hlv) (zDs HKS.out k hlt));(have hkk:k<ks.length:=by have:=HLL.out;omega);rw[<-HHG.out k hlt hkk]at HC;have HO:=hid (And.intro hown (And.intro hblk hbel));have HNZ:=hid hnz;have HTU:=hid (@zKe 5 ks k hkk);have HTK:=hid (@zKf 5 ks k hkk);have HJZ:=hid (@zKd 5 ks k hkk hnz);have HTL:=hid (@zGd 5 ks k);clear hcs hfk hlv hown hblk hbel hnz;generalize f.kids[k]=g at*;generalize hgg:ks[k]=g' at*;have HGG:=hid hgg;clear hgg;(go_wp2_with fail);refine(HC.out _ (HO.out.2.2.alloc HO.out.2.2.size _)).mono ?_;rintro e w1 ⟨cs1,rfl,hg1,hb1⟩;obtain⟨A1,cap1,rfl⟩:=FmR.form hg1;(have hbl1:wr.heap.size<w1.heap.size:=by have:=hb1.size;simp at this;omega);have hT:=hid ((Blk.new wr 24 #[.int .i64 g.op,.string g.name,.int .i64 g.cmp,.int .i64 g.num,.slice A' g.kids.length cap']).below hb1 (by simp));have hQ:=hid ((HO.out.2.1.2.alloc (.cells #[.int .i64 g.op,.string g.name,.int .i64 g.cmp,.int .i64 g.num,.slice A' g.kids.length cap'] 24)).below hb1 (by simp;omega));have hR:=hid ((HO.out.2.1.1.alloc (.cells #[.int .i64 g.op,.string g.name,.int .i64 g.cmp,.int .i64 g.num,.slice A' g.kids.length cap'] 24)).below hb1 (by simp;omega));have hB:=hid (zBw (HO.out.2.2.alloc HO.out.2.2.size _) hb1);have hOw:=hid (HO.out.1.below (zBw (zE wr _) hb1));have hb12:=hid (zBw (zE wr _) hb1);have hG1:=hid (FmR.live _ _ hg1);(have hWs:(wr.alloc (.cells #[.int .i64 g.op,.string g.name,.int .i64 g.cmp,.int .i64 g.num,.slice A' g.kids.length cap'] 24)).heap.size =wr.heap.size+1:=by simp);rw[hWs]at hG1;clear hg1 hb1 hWs;dsimp only;(have eZ:zDt 5=2:=by decide);(have eU:zCc 5=1:=by decide);rw[eZ]at HJZ HNZ;rw[eU]at HTU HTK;by_cases hz':g'.op=2
   ·(have hz0:(g'.op==(2:Int))=true:=by simp[hz']);(have hz1:(g'.op==(1:Int))=false:=by simp[hz']);have HJ:=hid (HJZ.out hz');clear HJZ HTU HTK;(have hsz1:w.heap.size+1<wr.heap.size:=by omega);go_wp2_with(first|(refine zg rfl 24 _ _ rfl rfl rfl hT.out rfl Tryz.szF (by simp[Value.oneCell']) ?_;intro w2 hb2 hk2 hs2;obtain⟨⟨r0,r1,r2,r3,r4⟩,-⟩:=zCw hb2;have hR2:=hR.out.keep hk2 (by show w.heap.size+1≠wr.heap.size;omega))|(refine zg rfl 24 _ _ rfl rfl rfl hR2 rfl Tryz.szF (by simp[Value.oneCell']) ?_;intro w3 hb3 hk3 hs3;obtain⟨⟨s0,s1,s2,s3,s4⟩,-⟩:=zCw hb3));refine bodyPost_ret (v:= .agg #[.int .i64 g'.op,.string g'.name,.int .i64 g'.cmp,.int .i64 g'.num,.slice A1 g'.kids.length cap1]) (by simp[results,Tryz.results35,go_sem,s0,s1,s2,s3,s4];try exact hz'.symm) rfl ⟨_,rfl,?_,zAV (zAV hB.out hk2 (by omega) hB.out.size) hk3 (by omega) (by rw[hs2];exact hB.out.size)⟩;rw[HG.out,HJ.out];refine FmR.mono (λb hb=> ?_) _ _ (FmR.keep ((hk2.mono (λb _ hb=> ?_)).trans (hk3.mono (λb _ hb=> ?_))) _ _ hG1.out)
    ·rcases hb.1 with h|h
     ·exact Or.inl h.1
     ·exact Or.inr (by omega)
    ·rcases hb.1 with h|h<;>omega
    ·rcases hb.1 with h|h<;>omega
   ·(have hz0:(g'.op==(2:Int))=false:=by simp[hz']);by_cases hu':g'.op=1
    ·(have hu0:(g'.op==(1:Int))=true:=by simp[hu']);have HT:=hid (HTU.out hu');clear HJZ HTU HTK hu';have HZ:=hid hz';clear hz';go_wp2_with(refine zg rfl 24 _ _ rfl rfl rfl hT.out rfl Tryz.szF (by simp[Value.oneCell']) ?_;intro w2 hb2 hk2 hs2;obtain⟨⟨r0,r1,r2,r3,r4⟩,-⟩:=zCw hb2);refine⟨⟨_,_,_,⟨k+1,by omega,rfl,?_,?_,?_,?_,by omega⟩,rfl,rfl,by simp⟩,by simp[intOf];omega⟩
     ·intro j hj hjk;rcases Nat.lt_or_ge j k with h|h
      ·exact HNZ.out j hj h
      ·(obtain rfl:j=k:=by omega);rw[HGG.out];exact HZ.out
     ·rw[HT.out];exact HO.out.1.below (zAV hb12.out hk2 (Nat.le_refl _) hb12.out.size)
     ·exact⟨hR.out.keep hk2 (by show w.heap.size+1≠wr.heap.size;omega),hQ.out.keep hk2 (by show w.heap.size≠wr.heap.size;omega)⟩
     ·exact zAV hB.out hk2 (by omega) hB.out.size
    ·(have hu0:(g'.op==(1:Int))=false:=by simp[hu']);have HT:=hid (HTK.out hu');clear HJZ HTU HTK hu';have HZ:=hid hz';clear hz';have htl:=HTL.out;have hll:=HLL.out;go_wp2_with(first|(refine zg rfl 24 _ _ rfl rfl rfl hT.out rfl Tryz.szF (by simp[Value.oneCell']) ?_;intro w2 hb2 hk2 hs2;obtain⟨⟨r0,r1,r2,r3,r4⟩,-⟩:=zCw hb2;obtain⟨csl,how1,how2⟩:=HO.out.1.below (zAV hb12.out hk2 (Nat.le_refl _) hb12.out.size))|(at_builtin;refine zf rfl (.tmp 73) (.tmp 75) _ rfl Tryz.underlying22 Tryz.eFm rfl (how1.alloc _) rfl (news:=[.int .i64 g'.op,.string g'.name,.int .i64 g'.cmp,.int .i64 g'.num,.slice A1 g'.kids.length cap1]) rfl (zIT (W:=w2.alloc (.cells #[.int .i64 g'.op,.string g'.name,.int .i64 g'.cmp,.int .i64 g'.num,.slice A1 g'.kids.length cap1] 24)) (g:=w1.heap.size) (t:=24) (by have:=Blk.new w2 24 #[.int .i64 g'.op,.string g'.name,.int .i64 g'.cmp,.int .i64 g'.num,.slice A1 g'.kids.length cap1];rwa[hs2]at this)) (by simp[Value.oneCell']) (by unfold maxLen;omega) (by omega) (by simp;omega) ?_;intro v1 w5 hown5 hg5 hat5));refine⟨⟨_,_,_,⟨k+1,by omega,rfl,?_,?_,?_,?_,?_⟩,rfl,rfl,by simp⟩,by simp[intOf];omega⟩
     ·intro j hj hjk;rcases Nat.lt_or_ge j k with h|h
      ·exact HNZ.out j (by omega) h
      ·(obtain rfl:j=k:=by omega);rw[HGG.out];exact HZ.out
     ·rw[HT.out];refine zBP.grow (FmL.mono (λb hb=>⟨hb.1,Nat.lt_of_lt_of_le hb.2.1 (by simp),hb.2.2⟩) (FmL.keep (.alloc (.refl _ _) _) how2)) ?_ hown5 hg5 hat5;refine FmR.mono (λb hb=> ?_) _ _ (FmR.keep ((hk2.mono (λb _ hb=> ?_)).trans (.alloc (.refl _ _) _)) _ _ hG1.out)
      ·refine⟨?_,by simp;omega,λe=> ?_⟩
       ·rcases hb.1 with h|h
        ·exact Or.inl h
        ·exact Or.inr (by omega)
       ·obtain⟨csl0,how0,-⟩:=HO.out.1;have:=how0.lt b e;rcases hb.1 with h|h<;>omega
      ·rcases hb.1 with h|h<;>omega
     ·refine⟨(((hR.out.keep hk2 (by show w.heap.size+1≠wr.heap.size;omega)).alloc _).of_block (hg5.block _ (by simp;omega) λe=> ?_)),(((hQ.out.keep hk2 (by show w.heap.size≠wr.heap.size;omega)).alloc _).of_block (hg5.block _ (by simp;omega) λe=> ?_))⟩
      ·have:=how1.lt _ e.symm;omega
      ·have:=how1.lt _ e.symm;omega
     ·exact zx ((zAV hB.out hk2 (by omega) hB.out.size).alloc (by have:=hB.out.size;omega) _) (how1.alloc _) hg5 (by simp;have:=hB.out.size;omega) (by omega)
     ·have:=hg5.size;simp at this;omega
  ·(obtain rfl:k=f.kids.length:=by omega);(have hk9:ks.take f.kids.length=ks:=by rw[<-HLL.out];exact List.take_length);rw[hk9]at hown;have hj:= @zMK 5 ks (λj hj=>hnz j hj (by have:=HLL.out;omega));rw[<-HG.out]at hj;obtain⟨oA',ocap2,heq,hcap,hmax,hfm⟩:=zBP.done hown;injection heq with q1 q2 q3;subst q1 q3;have htl:=zGd (op:=5) (ks:=ks) f.kids.length;rw[hk9]at htl;have hll:=HLL.out;have zAF:=hid hbel;have zKP:=hid hblk.1;obtain⟨⟨p0,p1,p2,p3,p4⟩,-⟩:=zCw hblk.2;have zKQ:=hid (And.intro hcap hmax);rw[show zBL 5 (List.take f.kids.length ks)=zBL 5 ks from by rw[hk9]];have hkl:=hkM;clear hown hk9 hnz hbel hblk hcap hmax q2 hkM hk
   have hZ:∀w2:World,zA (λb=>b≠w.heap.size+1) wr w2->zA (λb=>((Z b∧b<w.heap.size)∨w.heap.size+2≤b)∨w.heap.size+2≤b) wr w2:=λw2 h=>h.mono λb _ hb=>by
    rcases hb with(h|h)|h
    ·have:=h.2;omega
    ·omega
    ·omega
   have h2:∀b,(((Z b∧b<w.heap.size)∨w.heap.size+2≤b)∨w.heap.size+2≤b)->(Z b∨w.heap.size≤b):=λb hb=>by
    rcases hb with(h|h)|h
    ·exact Or.inl h.1
    ·exact Or.inr (by omega)
    ·exact Or.inr (by omega)
   have HZ:=hid hZ;have H2:=hid h2;clear hZ h2
   cases hkc:zBL 5 ks with
   |nil=>
    rw[hkc]at hj;have HJ:=hid hj;clear hkc hj hfm;go_wp2_with(refine zg rfl 24 _ _ rfl rfl rfl zKP.out rfl Tryz.szF (by simp[Value.oneCell']) ?_;intro w2 hb2 hk2 hs2;obtain⟨⟨r0,r1,r2,r3,r4⟩,-⟩:=zCw hb2);refine bodyPost_ret (v:= .agg #[.int .i64 1,.string ⟨#[]⟩,.int .i64 0,.int .i64 0,.slice none 0 0]) (by simp[results,Tryz.results35,go_sem,r0,r1,r2,r3,r4]) rfl ⟨_,rfl,?_,zAV zAF.out hk2 (by omega) zAF.out.size⟩;rw[HJ.out];unfold FmR;exact⟨by simp[I64,zCc],by decide,by simp[I64],by simp[I64],none,0,rfl,Nat.le_refl _,by decide,by decide,by unfold zt;trivial⟩
   |cons k0 r=>
    rw[hkc]at hj htl hfm zKQ
    cases r with
    |nil=>
     have HJ:=hid hj;unfold zt at hfm;obtain⟨b,off,cs,rfl,hz,hcs,hfk,-⟩:=hfm;have HFK:=hid hfk;obtain⟨A',cap',rfl⟩:=FmR.form hfk;obtain⟨c0,c1,c2,c3,c4⟩:=zp (λj u hu=>hcs j u hu);clear hkc hj hcs hfk htl;simp only[List.length_cons,List.length_nil,Nat.zero_add];go_wp2_with(refine zg rfl 24 _ _ rfl rfl rfl zKP.out rfl Tryz.szF (by simp[Value.oneCell']) ?_;intro w2 hb2 hk2 hs2;obtain⟨⟨r0,r1,r2,r3,r4⟩,-⟩:=zCw hb2);refine bodyPost_ret (v:= .agg #[.int .i64 k0.op,.string k0.name,.int .i64 k0.cmp,.int .i64 k0.num,.slice A' k0.kids.length cap']) (by simp[results,Tryz.results35,go_sem,r0,r1,r2,r3,r4]) rfl ⟨_,rfl,?_,zAV zAF.out hk2 (by omega) zAF.out.size⟩;rw[HJ.out];exact FmR.mono H2.out _ _ (FmR.keep (HZ.out _ hk2) _ _ HFK.out)
    |cons k1 r=>
     have HJ:=hid (hj.trans (show _=Fm.mk 5 ⟨#[]⟩ 0 0 (k0::k1::r) from rfl));have HFM:=hid hfm;(have hl2:2≤(k0::k1::r).length :=by simp);clear hkc hj hfm;generalize hlen2:k0::k1::r=l at*;have zD1:=hid hlen2;clear hlen2;(have hz0:((l.length:Int)==0)=false:=by simp;intro e;rw[e]at hl2;simp at hl2);(have hz1:((l.length:Int)==1)=false:=by simp;omega);go_wp2_with(refine zg rfl 24 _ _ rfl rfl rfl zKP.out rfl Tryz.szF (by simp[Value.oneCell']) ?_;intro w2 hb2 hk2 hs2;obtain⟨⟨r0,r1,r2,r3,r4⟩,-⟩:=zCw hb2);refine bodyPost_ret (v:= .agg #[.int .i64 5,.string ⟨#[]⟩,.int .i64 0,.int .i64 0,.slice oA l.length ocap]) (by simp[results,Tryz.results35,go_sem,r0,r1,r2,r3,r4]) rfl ⟨_,rfl,?_,zAV zAF.out hk2 (by omega) zAF.out.size⟩;rw[HJ.out];unfold FmR;exact⟨by simp[I64],by decide,by simp[I64],by simp[I64],oA,ocap,rfl,zKQ.out.1,by have:=zKQ.out.2;unfold maxLen at this;omega,by omega,zt.mono H2.out _ _ (zt.keep (HZ.out _ hk2) _ _ HFM.out)⟩
theorem zPL(nm:ByteArray)(x:Int)(ds:List zC)(m:Nat)(ih:zPf nm x ds m)(f:Fm)(hm:zJ f≤m+1)(hM:zJ f≤1000000)(Z:zD)(A:Option Addr)(cap:Nat)(w:World)(hf:FmR Z w f [.int .i64 f.op,.string f.name,.int .i64 f.cmp,.int .i64 f.num,.slice A f.kids.length cap])(hok:zq (zY ds) f=0)(h5:f.op=6):
  Calls Tryz.prog 35 #[.agg [.int .i64 f.op,.string f.name,.int .i64 f.cmp,.int .i64 f.num,.slice A f.kids.length cap].toArray,.string nm,.int .i64 x] w (zDc Z (zU nm x f) w):=by
 have IH:=hid ih;clear ih;obtain⟨h0,hks⟩:=zDT hok;obtain⟨hkids,hkl⟩:=zKC hf;have hkM:f.kids.length≤1000000:=by have:=zA8 f.kids;have:=zBM f;omega
 have hlen:(zw nm x f.kids).length =f.kids.length:=by rw[zEg];simp
 have hget:∀k(hk:k<f.kids.length)(hk':k<(zw nm x f.kids).length),(zw nm x f.kids)[k]=zU nm x f.kids[k]:=λk hk hk'=>by simp[zEg]
 have hend:zU nm x f=zBt 6 (zw nm x f.kids):=by rw[zIV,if_neg (by omega),if_neg (by omega),if_pos (by omega),h5]
 have HG:=hid hend;have HKS:=hid hks;have HHG:=hid hget;have HS:=hid hkids;have HLT:=hid (λ(k:Nat)(hk:k<f.kids.length)=>zIO hk);have HLL:=hid hlen;clear hks hkids h0 hf hend hget hlen hok;generalize zw nm x f.kids=ks at*;go_enter Tryz.func35,Tryz.ntmps35
 go_wp2;go_loopw[10,12,63] (λv _ i wr=>∃k:Nat,k≤f.kids.length∧i= .int .i64 k∧(∀j(hj:j<ks.length),j<k->ks[j].op ≠zDt 6)∧zBP (λb=>(Z b∧b<w.heap.size)∨w.heap.size+2≤b) (w.heap.size+2) wr v (zBL 6 (ks.take k))∧(Blk wr (w.heap.size+1) 24 #[.int .i64 0,.string ⟨#[]⟩,.int .i64 0,.int .i64 0,.slice none 0 0]∧Blk wr w.heap.size 24 #[.int .i64 6,.string f.name,.int .i64 f.cmp,.int .i64 f.num,.slice A f.kids.length cap])∧Below w.heap.size w wr∧w.heap.size+2≤wr.heap.size) (λ_ _ i _=>f.kids.length-(intOf i).toNat)
 case atStart=>
  refine⟨0,Nat.zero_le _,rfl,λj _ h=>absurd h (Nat.not_lt_zero _),zBP.nil _ _ _,?_,zAy w _ _,by simp⟩;have:=Blk.new (w.alloc (.cells #[.int .i64 f.op,.string f.name,.int .i64 f.cmp,.int .i64 f.num,.slice A f.kids.length cap] 24)) 24 #[.int .i64 0,.string ⟨#[]⟩,.int .i64 0,.int .i64 0,.slice none 0 0];simp only[World.size_alloc]at this;have that:=(Blk.new w 24 #[.int .i64 f.op,.string f.name,.int .i64 f.cmp,.int .i64 f.num,.slice A f.kids.length cap]).alloc (.cells #[.int .i64 0,.string ⟨#[]⟩,.int .i64 0,.int .i64 0,.slice none 0 0] 24);rw[h5]at this that;exact⟨this,that⟩
 case round=>
  obtain⟨k,hk,rfl,hnz,hown,hblk,hbel,hsz⟩:=hrel;obtain⟨oA,ocap,rfl,-,-,-⟩:=zBP.done hown;by_cases hlt:k<f.kids.length
  ·obtain⟨b,off,cs,rfl,hz,hcs,hfk⟩:=HS.out.at_ hlt;have hlv:=FmR.live _ _ hfk;obtain⟨A',cap',rfl⟩:=FmR.form hfk;obtain⟨c0,c1,c2,c3,c4⟩:=zp (λj u hu=>(zA.of_below (Z:=Z) hbel).cell (p:=⟨b,off+k*5+j,none⟩) hz (hcs j u hu));have HC:=hid (λW(h:Below w.heap.size w W)=>IH.out f.kids[k] (by have:=HLT.out k hlt;omega) (by have:=HLT.out k hlt;omega) (λb=>Z b∧b<w.heap.size) _ W (FmR.keep (.of_below h) _ _ hlv) (zDs HKS.out k hlt));(have hkk:k<ks.length:=by have:=HLL.out;omega);rw[<-HHG.out k hlt hkk]at HC;have HO:=hid (And.intro hown (And.intro hblk hbel));have HNZ:=hid hnz;have HTU:=hid (@zKe 6 ks k hkk);have HTK:=hid (@zKf 6 ks k hkk);have HJZ:=hid (@zKd 6 ks k hkk hnz);have HTL:=hid (@zGd 6 ks k);clear hcs hfk hlv hown hblk hbel hnz;generalize f.kids[k]=g at*;generalize hgg:ks[k]=g' at*;have HGG:=hid hgg;clear hgg;(go_wp2_with fail);refine(HC.out _ (HO.out.2.2.alloc HO.out.2.2.size _)).mono ?_;rintro e w1 ⟨cs1,rfl,hg1,hb1⟩;obtain⟨A1,cap1,rfl⟩:=FmR.form hg1;(have hbl1:wr.heap.size<w1.heap.size:=by have:=hb1.size;simp at this;omega);have hT:=hid ((Blk.new wr 24 #[.int .i64 g.op,.string g.name,.int .i64 g.cmp,.int .i64 g.num,.slice A' g.kids.length cap']).below hb1 (by simp));have hQ:=hid ((HO.out.2.1.2.alloc (.cells #[.int .i64 g.op,.string g.name,.int .i64 g.cmp,.int .i64 g.num,.slice A' g.kids.length cap'] 24)).below hb1 (by simp;omega));have hR:=hid ((HO.out.2.1.1.alloc (.cells #[.int .i64 g.op,.string g.name,.int .i64 g.cmp,.int .i64 g.num,.slice A' g.kids.length cap'] 24)).below hb1 (by simp;omega));have hB:=hid (zBw (HO.out.2.2.alloc HO.out.2.2.size _) hb1);have hOw:=hid (HO.out.1.below (zBw (zE wr _) hb1));have hb12:=hid (zBw (zE wr _) hb1);have hG1:=hid (FmR.live _ _ hg1);(have hWs:(wr.alloc (.cells #[.int .i64 g.op,.string g.name,.int .i64 g.cmp,.int .i64 g.num,.slice A' g.kids.length cap'] 24)).heap.size =wr.heap.size+1:=by simp);rw[hWs]at hG1;clear hg1 hb1 hWs;dsimp only;(have eZ:zDt 6=1:=by decide);(have eU:zCc 6=2:=by decide);rw[eZ]at HJZ HNZ;rw[eU]at HTU HTK;by_cases hz':g'.op=1
   ·(have hz0:(g'.op==(1:Int))=true:=by simp[hz']);(have hz1:(g'.op==(2:Int))=false:=by simp[hz']);have HJ:=hid (HJZ.out hz');clear HJZ HTU HTK;(have hsz1:w.heap.size+1<wr.heap.size:=by omega);go_wp2_with(first|(refine zg rfl 24 _ _ rfl rfl rfl hT.out rfl Tryz.szF (by simp[Value.oneCell']) ?_;intro w2 hb2 hk2 hs2;obtain⟨⟨r0,r1,r2,r3,r4⟩,-⟩:=zCw hb2;have hR2:=hR.out.keep hk2 (by show w.heap.size+1≠wr.heap.size;omega))|(refine zg rfl 24 _ _ rfl rfl rfl hR2 rfl Tryz.szF (by simp[Value.oneCell']) ?_;intro w3 hb3 hk3 hs3;obtain⟨⟨s0,s1,s2,s3,s4⟩,-⟩:=zCw hb3));refine bodyPost_ret (v:= .agg #[.int .i64 g'.op,.string g'.name,.int .i64 g'.cmp,.int .i64 g'.num,.slice A1 g'.kids.length cap1]) (by simp[results,Tryz.results35,go_sem,s0,s1,s2,s3,s4];try exact hz'.symm) rfl ⟨_,rfl,?_,zAV (zAV hB.out hk2 (by omega) hB.out.size) hk3 (by omega) (by rw[hs2];exact hB.out.size)⟩;rw[HG.out,HJ.out];refine FmR.mono (λb hb=> ?_) _ _ (FmR.keep ((hk2.mono (λb _ hb=> ?_)).trans (hk3.mono (λb _ hb=> ?_))) _ _ hG1.out)
    ·rcases hb.1 with h|h
     ·exact Or.inl h.1
     ·exact Or.inr (by omega)
    ·rcases hb.1 with h|h<;>omega
    ·rcases hb.1 with h|h<;>omega
   ·(have hz0:(g'.op==(1:Int))=false:=by simp[hz']);by_cases hu':g'.op=2
    ·(have hu0:(g'.op==(2:Int))=true:=by simp[hu']);have HT:=hid (HTU.out hu');clear HJZ HTU HTK hu';have HZ:=hid hz';clear hz';go_wp2_with(refine zg rfl 24 _ _ rfl rfl rfl hT.out rfl Tryz.szF (by simp[Value.oneCell']) ?_;intro w2 hb2 hk2 hs2;obtain⟨⟨r0,r1,r2,r3,r4⟩,-⟩:=zCw hb2);refine⟨⟨_,_,_,⟨k+1,by omega,rfl,?_,?_,?_,?_,by omega⟩,rfl,rfl,by simp⟩,by simp[intOf];omega⟩
     ·intro j hj hjk;rcases Nat.lt_or_ge j k with h|h
      ·exact HNZ.out j hj h
      ·(obtain rfl:j=k:=by omega);rw[HGG.out];exact HZ.out
     ·rw[HT.out];exact HO.out.1.below (zAV hb12.out hk2 (Nat.le_refl _) hb12.out.size)
     ·exact⟨hR.out.keep hk2 (by show w.heap.size+1≠wr.heap.size;omega),hQ.out.keep hk2 (by show w.heap.size≠wr.heap.size;omega)⟩
     ·exact zAV hB.out hk2 (by omega) hB.out.size
    ·(have hu0:(g'.op==(2:Int))=false:=by simp[hu']);have HT:=hid (HTK.out hu');clear HJZ HTU HTK hu';have HZ:=hid hz';clear hz';have htl:=HTL.out;have hll:=HLL.out;go_wp2_with(first|(refine zg rfl 24 _ _ rfl rfl rfl hT.out rfl Tryz.szF (by simp[Value.oneCell']) ?_;intro w2 hb2 hk2 hs2;obtain⟨⟨r0,r1,r2,r3,r4⟩,-⟩:=zCw hb2;obtain⟨csl,how1,how2⟩:=HO.out.1.below (zAV hb12.out hk2 (Nat.le_refl _) hb12.out.size))|(at_builtin;refine zf rfl (.tmp 73) (.tmp 75) _ rfl Tryz.underlying22 Tryz.eFm rfl (how1.alloc _) rfl (news:=[.int .i64 g'.op,.string g'.name,.int .i64 g'.cmp,.int .i64 g'.num,.slice A1 g'.kids.length cap1]) rfl (zIT (W:=w2.alloc (.cells #[.int .i64 g'.op,.string g'.name,.int .i64 g'.cmp,.int .i64 g'.num,.slice A1 g'.kids.length cap1] 24)) (g:=w1.heap.size) (t:=24) (by have:=Blk.new w2 24 #[.int .i64 g'.op,.string g'.name,.int .i64 g'.cmp,.int .i64 g'.num,.slice A1 g'.kids.length cap1];rwa[hs2]at this)) (by simp[Value.oneCell']) (by unfold maxLen;omega) (by omega) (by simp;omega) ?_;intro v1 w5 hown5 hg5 hat5));refine⟨⟨_,_,_,⟨k+1,by omega,rfl,?_,?_,?_,?_,?_⟩,rfl,rfl,by simp⟩,by simp[intOf];omega⟩
     ·intro j hj hjk;rcases Nat.lt_or_ge j k with h|h
      ·exact HNZ.out j (by omega) h
      ·(obtain rfl:j=k:=by omega);rw[HGG.out];exact HZ.out
     ·rw[HT.out];refine zBP.grow (FmL.mono (λb hb=>⟨hb.1,Nat.lt_of_lt_of_le hb.2.1 (by simp),hb.2.2⟩) (FmL.keep (.alloc (.refl _ _) _) how2)) ?_ hown5 hg5 hat5;refine FmR.mono (λb hb=> ?_) _ _ (FmR.keep ((hk2.mono (λb _ hb=> ?_)).trans (.alloc (.refl _ _) _)) _ _ hG1.out)
      ·refine⟨?_,by simp;omega,λe=> ?_⟩
       ·rcases hb.1 with h|h
        ·exact Or.inl h
        ·exact Or.inr (by omega)
       ·obtain⟨csl0,how0,-⟩:=HO.out.1;have:=how0.lt b e;rcases hb.1 with h|h<;>omega
      ·rcases hb.1 with h|h<;>omega
     ·refine⟨(((hR.out.keep hk2 (by show w.heap.size+1≠wr.heap.size;omega)).alloc _).of_block (hg5.block _ (by simp;omega) λe=> ?_)),(((hQ.out.keep hk2 (by show w.heap.size≠wr.heap.size;omega)).alloc _).of_block (hg5.block _ (by simp;omega) λe=> ?_))⟩
      ·have:=how1.lt _ e.symm;omega
      ·have:=how1.lt _ e.symm;omega
     ·exact zx ((zAV hB.out hk2 (by omega) hB.out.size).alloc (by have:=hB.out.size;omega) _) (how1.alloc _) hg5 (by simp;have:=hB.out.size;omega) (by omega)
     ·have:=hg5.size;simp at this;omega
  ·(obtain rfl:k=f.kids.length:=by omega);(have hk9:ks.take f.kids.length=ks:=by rw[<-HLL.out];exact List.take_length);rw[hk9]at hown;have hj:= @zMK 6 ks (λj hj=>hnz j hj (by have:=HLL.out;omega));rw[<-HG.out]at hj;obtain⟨oA',ocap2,heq,hcap,hmax,hfm⟩:=zBP.done hown;injection heq with q1 q2 q3;subst q1 q3;have htl:=zGd (op:=6) (ks:=ks) f.kids.length;rw[hk9]at htl;have hll:=HLL.out;have zAF:=hid hbel;have zKP:=hid hblk.1;obtain⟨⟨p0,p1,p2,p3,p4⟩,-⟩:=zCw hblk.2;have zKQ:=hid (And.intro hcap hmax);rw[show zBL 6 (List.take f.kids.length ks)=zBL 6 ks from by rw[hk9]];have hkl:=hkM;clear hown hk9 hnz hbel hblk hcap hmax q2 hkM hk
   have hZ:∀w2:World,zA (λb=>b≠w.heap.size+1) wr w2->zA (λb=>((Z b∧b<w.heap.size)∨w.heap.size+2≤b)∨w.heap.size+2≤b) wr w2:=λw2 h=>h.mono λb _ hb=>by
    rcases hb with(h|h)|h
    ·have:=h.2;omega
    ·omega
    ·omega
   have h1:∀b,(((Z b∧b<w.heap.size)∨w.heap.size+2≤b)∨w.heap.size+2≤b)->(Z b∨w.heap.size≤b):=λb hb=>by
    rcases hb with(h|h)|h
    ·exact Or.inl h.1
    ·exact Or.inr (by omega)
    ·exact Or.inr (by omega)
   have HZ:=hid hZ;have H1:=hid h1;clear hZ h1
   cases hkc:zBL 6 ks with
   |nil=>
    rw[hkc]at hj;have HJ:=hid hj;clear hkc hj hfm;go_wp2_with(refine zg rfl 24 _ _ rfl rfl rfl zKP.out rfl Tryz.szF (by simp[Value.oneCell']) ?_;intro w2 hb2 hk2 hs2;obtain⟨⟨r0,r1,r2,r3,r4⟩,-⟩:=zCw hb2);refine bodyPost_ret (v:= .agg #[.int .i64 2,.string ⟨#[]⟩,.int .i64 0,.int .i64 0,.slice none 0 0]) (by simp[results,Tryz.results35,go_sem,r0,r1,r2,r3,r4]) rfl ⟨_,rfl,?_,zAV zAF.out hk2 (by omega) zAF.out.size⟩;rw[HJ.out];unfold FmR;exact⟨by simp[I64,zCc],by decide,by simp[I64],by simp[I64],none,0,rfl,Nat.le_refl _,by decide,by decide,by unfold zt;trivial⟩
   |cons k0 r=>
    rw[hkc]at hj htl hfm zKQ
    cases r with
    |nil=>
     have HJ:=hid hj;unfold zt at hfm;obtain⟨b,off,cs,rfl,hz,hcs,hfk,-⟩:=hfm;have HFK:=hid hfk;obtain⟨A',cap',rfl⟩:=FmR.form hfk;obtain⟨c0,c1,c2,c3,c4⟩:=zp (λj u hu=>hcs j u hu);clear hkc hj hcs hfk htl;simp only[List.length_cons,List.length_nil,Nat.zero_add];go_wp2_with(refine zg rfl 24 _ _ rfl rfl rfl zKP.out rfl Tryz.szF (by simp[Value.oneCell']) ?_;intro w2 hb2 hk2 hs2;obtain⟨⟨r0,r1,r2,r3,r4⟩,-⟩:=zCw hb2);refine bodyPost_ret (v:= .agg #[.int .i64 k0.op,.string k0.name,.int .i64 k0.cmp,.int .i64 k0.num,.slice A' k0.kids.length cap']) (by simp[results,Tryz.results35,go_sem,r0,r1,r2,r3,r4]) rfl ⟨_,rfl,?_,zAV zAF.out hk2 (by omega) zAF.out.size⟩;rw[HJ.out];exact FmR.mono H1.out _ _ (FmR.keep (HZ.out _ hk2) _ _ HFK.out)
    |cons k1 r=>
     have HJ:=hid (hj.trans (show _=Fm.mk 6 ⟨#[]⟩ 0 0 (k0::k1::r) from rfl));have HFM:=hid hfm;(have hl2:2≤(k0::k1::r).length :=by simp);clear hkc hj hfm;generalize hlen2:k0::k1::r=l at*;have zD1:=hid hlen2;clear hlen2;(have hz0:((l.length:Int)==0)=false:=by simp;intro e;rw[e]at hl2;simp at hl2);(have hz1:((l.length:Int)==1)=false:=by simp;omega);go_wp2_with(refine zg rfl 24 _ _ rfl rfl rfl zKP.out rfl Tryz.szF (by simp[Value.oneCell']) ?_;intro w2 hb2 hk2 hs2;obtain⟨⟨r0,r1,r2,r3,r4⟩,-⟩:=zCw hb2);refine bodyPost_ret (v:= .agg #[.int .i64 6,.string ⟨#[]⟩,.int .i64 0,.int .i64 0,.slice oA l.length ocap]) (by simp[results,Tryz.results35,go_sem,r0,r1,r2,r3,r4]) rfl ⟨_,rfl,?_,zAV zAF.out hk2 (by omega) zAF.out.size⟩;rw[HJ.out];unfold FmR;exact⟨by simp[I64],by decide,by simp[I64],by simp[I64],oA,ocap,rfl,zKQ.out.1,by have:=zKQ.out.2;unfold maxLen at this;omega,by omega,zt.mono H1.out _ _ (zt.keep (HZ.out _ hk2) _ _ HFM.out)⟩
end Go.Proofs.YtonmdbdopchkaaaGreatDoor
