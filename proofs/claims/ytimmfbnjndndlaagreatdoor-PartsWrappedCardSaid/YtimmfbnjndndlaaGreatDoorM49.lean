/- Texts RL RL2 RY RU0 RV0 RV1. -/
import Derived.Test.YtimmfbnjndndlaaGreatDoorM48
import Derived.Test.YtimmfbnjndndlaaGreatDoorM46
set_option linter.all false
namespace Go.Proofs.YtimmfbnjndndlaaGreatDoor
open Go.RowKit
set_option maxHeartbeats 8000000
set_option maxRecDepth 100000
section
open Go.Shelf
theorem Tryz.eFmC:ElemIs Tryz.prog 47 5 64:=elemIs_of (z:= .agg #[.int .i64 0,.string ⟨#[]⟩,.int .i64 0,.int .i64 0,.slice none 0 0]) (by kernel_rfl) rfl (by decide)
structure CelR (Z:Zone) (w wr:World) (vd vl:Value) (fs:List Fm) (v:Value) (csl:List (List Value)):Prop where
 fb:Blk wr (w.heap.size+1+1+1) 47 #[.int .i64 5,.string ⟨#[]⟩,.int .i64 0,.int .i64 0,v]
 db:Blk wr w.heap.size 24 #[vd]
 tb:Blk wr (w.heap.size+1) 27 #[vd,vl]
 zb:Blk wr (w.heap.size+1+1) 27 #[.slice none 0 0,.slice none 0 0]
 own:wr.ownsRow w.heap.size 47 5 v fs.length csl.flatten
 each:EachR (λcs f=>FmR Z w f cs) 5 fs csl
 ne:v.ownBlock≠some (w.heap.size+1+1+1)
 be:Below w.heap.size w wr
theorem CelR.push{Z:Zone}{w wr w5:World}{vd vl v v5:Value}{fs:List Fm}{csl:List (List Value)}{f:Fm}{cs:List Value}{o:Obj}(h:CelR Z w wr vd vl fs v csl)(hg:(wr.alloc o).drew.grownBy w5 v.ownBlock)
  (ho:w5.ownsRow w.heap.size 47 5 v5 (fs.length+1) (csl.flatten++cs))(hat:v5.ownBlock=v.ownBlock∨v5.ownBlock=some (wr.alloc o).drew.heap.size)(hf:FmR Z w f cs):
  CelR Z w (w5.setCell ⟨w.heap.size+1+1+1,4,none⟩ v5) vd vl (fs++[f]) v5 (csl++[cs]):=by
 have hd:=h.db.lt;have hF:=h.fb.lt;have hsz:(wr.alloc o).drew.heap.size =wr.heap.size+1:=by show(wr.alloc o).heap.size =_;simp
 have hne5:v5.ownBlock≠some (w.heap.size+1+1+1):=by
  rcases hat with e|e
  ·rw[e];exact h.ne
  ·rw[e,hsz];intro e2;injection e2 with e2;omega
 have hl:cs.length=5:=by obtain⟨A,cap,rfl⟩:=FmR.form hf;rfl
 refine⟨((h.fb.alloc o).drew.grown hg h.ne).set_ 4 _,((h.db.alloc o).drew.grown hg (own_ne_blk h.db h.own (by decide))).far (by show w.heap.size≠w.heap.size+1+1+1;omega) _,((h.tb.alloc o).drew.grown hg (own_ne_blk h.tb h.own (by decide))).far (by show w.heap.size+1≠w.heap.size+1+1+1;omega) _,
  ((h.zb.alloc o).drew.grown hg (own_ne_blk h.zb h.own (by decide))).far (by show w.heap.size+1+1≠w.heap.size+1+1+1;omega) _,?_,h.each.append (EachR.one hf hl),hne5,?_⟩
 ·have h1:=own_keep (Z:=λb=>b≠w.heap.size+1+1+1) ho ((Keeps.refl _ _).setCell (p:=⟨w.heap.size+1+1+1,4,none⟩) (λ_ h=>h rfl) v5) (λk hk e=>hne5 (by rw[hk,e]));simpa using h1
 ·have h1:Below w.heap.size w (wr.alloc o).drew :=(h.be.alloc h.be.size o).drew;have h2:(wr.alloc o).drew.ownsRow w.heap.size 47 5 v fs.length csl.flatten:=h.own.alloc o;exact(below_own h1 h2 hg h1.size (Nat.le_refl _)).setCell (p:=⟨w.heap.size+1+1+1,4,none⟩) (by show w.heap.size≤w.heap.size+1+1+1;omega) v5
theorem CelR.fm{Z:Zone}{w wr:World}{vd vl v:Value}{fs:List Fm}{csl:List (List Value)}(h:CelR Z w wr vd vl fs v csl)(hz:∀b,Z b->b<w.heap.size)(hl:fs.length≤1000):
  ∃A cap,v= .slice A fs.length cap∧FmR (λb=>Z b∨w.heap.size≤b) wr (.mk 5 ⟨#[]⟩ 0 0 fs) [.int .i64 5,.string ⟨#[]⟩,.int .i64 0,.int .i64 0,.slice A fs.length cap]:=by
 obtain⟨A,cap,rfl,h1,h2,h3⟩:=Row.of_own h.own (by decide);refine⟨A,cap,rfl,?_⟩;unfold FmR;refine⟨by unfold I64;omega,by decide,by unfold I64;omega,by unfold I64;omega,A,cap,rfl,h1,by simpa[maxLen]using h2,by omega,FmsR.of_seq ?_⟩
 cases fs with
 |nil=>unfold SeqR;trivial
 |cons p r=>
  have hne:csl.flatten≠[]:=by
   intro e;have:=h.each.size;rw[e]at this;simp at this
  obtain⟨b,off,rfl,hb,hc⟩:=h3 hne;exact EachR.rows (Or.inr hb) (h.each.imp λcs f hf=>FmR.mono (λ_ hb=>Or.inl hb) _ _ (FmR.keep (Keeps.of_below h.be) _ _ hf)) hc
theorem fsizes_le{l:List Fm}{n:Nat}(h:∀f∈l,fsize f≤n):fsizes l≤l.length*n:=by
 induction l with
 |nil=>simp[fsizes]
 |cons a r ih=>
  rw[fsizes,List.length_cons,Nat.succ_mul];have h1:=h a (by simp);have h2:=ih λf hf=>h f (by simp[hf])
  omega
theorem cells27_any(Z:Zone)(vd vl:Value)(t:TarD)(w:World)(ht:TarR Z w vd vl t)(hz:∀b,Z b->b<w.heap.size)(h8:t.lines.length≤8)(h40:∀x∈t.lines,fsize x.when_≤40):
  Calls Tryz.prog 47 #[.agg #[vd],.agg #[vd,vl],.agg #[.slice none 0 0,.slice none 0 0]] w (SomeB w):=by
 obtain⟨⟨A,cap,rfl,-,-,-,hs⟩⟩:=ht.l;have HS:=hid (And.intro hs hz);have HT:=hid ht;have H40:=hid h40;have HZ:=hid hz;clear hs ht h40 hz;go_enter Tryz.func47,Tryz.ntmps47
 go_upto_region 2 with fail
 have HC:=hid (show CelR Z w ((((w.alloc (.cells #[vd] 24)).alloc (.cells #[vd,.slice A t.lines.length cap] 27)).alloc (.cells #[.slice none 0 0,.slice none 0 0] 27)).alloc (.cells #[.int .i64 5,.string ⟨#[]⟩,.int .i64 0,.int .i64 0,.slice none 0 0] 47)) vd (.slice A t.lines.length cap) [] (.slice none 0 0) [] from
  ⟨blk_new' _ _ _ (by simp),(((Blk.new w _ _).alloc _).alloc _).alloc _,((blk_new' _ _ _ (by simp)).alloc _).alloc _,(blk_new' _ _ _ (by simp)).alloc _,World.ownsRow_nil _ _ _ _,trivial,λh=>(by cases h),((((Below.refl _ _).alloc (Nat.le_refl _) _).alloc (by simp) _).alloc (by simp;omega) _).alloc (by simp;omega) _⟩)
 generalize ((((w.alloc (.cells #[vd] 24)).alloc (.cells #[vd,.slice A t.lines.length cap] 27)).alloc (.cells #[.slice none 0 0,.slice none 0 0] 27)).alloc (.cells #[.int .i64 5,.string ⟨#[]⟩,.int .i64 0,.int .i64 0,.slice none 0 0] 47))=w0 at*;go_wp2_with fail
 go_loopw[8] (λiv wr=>∃(k:Nat)(v:Value)(csl:List (List Value)),k≤t.lines.length∧iv= .int .i64 k∧CelR Z w wr vd (.slice A t.lines.length cap) ((t.lines.take k).map LineD.when_) v csl) (λiv _=>t.lines.length-(intOf iv).toNat);case atStart=>exact⟨0,_,[],Nat.zero_le _,rfl,HC.out⟩
 case round=>
  obtain⟨k,v,csl,hk,rfl,hcr⟩:=hrel;obtain⟨KA,kcap,hv,-,-,-⟩:=Row.of_own hcr.own (by decide);subst hv;have hkl:((t.lines.take k).map LineD.when_).length =k:=by rw[List.length_map,List.length_take];omega
  have HCR:=hid hcr;have b1:=hcr.tb.at1;have bl:=hcr.tb.lt;by_cases hlt:k<t.lines.length
  ·obtain⟨b,off,cs,rfl,hzb,hc,hR⟩:=HS.out.1.at_ hlt;obtain⟨FA,fcap,rfl,hfm⟩:=hR.form;have hbs:=HS.out.2 b hzb;have hcb:=cells_below hcr.be hbs hc;have c0:wr.cell? ⟨b,off+k*7,none⟩=_:=hcb 0 _ rfl;have c1:wr.cell? ⟨b,off+k*7+1,none⟩=_:=hcb 1 _ rfl;have c2:wr.cell? ⟨b,off+k*7+2,none⟩=_:=hcb 2 _ rfl;have c3:wr.cell? ⟨b,off+k*7+3,none⟩=_:=hcb 3 _ rfl;have c4:wr.cell? ⟨b,off+k*7+4,none⟩=_:=hcb 4 _ rfl;have cl:=lt_of_cell c0;have f4:=hcr.fb.at4;have fl:=hcr.fb.lt;have HOW:=hid (show wr.drew.ownsRow w.heap.size 47 5 (.slice KA k kcap) k csl.flatten from by have h:=hcr.own;rw[hkl]at h;exact h)
   have HNX:=hid (show ∀(w5:World)(v5:Value)(o:Obj),(wr.alloc o).drew.grownBy w5 (Value.slice KA k kcap).ownBlock ->w5.ownsRow w.heap.size 47 5 v5 (k+1) (csl.flatten++[.int .i64 t.lines[k].when_.op,.string t.lines[k].when_.name,.int .i64 t.lines[k].when_.cmp,.int .i64 t.lines[k].when_.num,.slice FA t.lines[k].when_.kids.length fcap])->
     (v5.ownBlock=(Value.slice KA k kcap).ownBlock ∨v5.ownBlock=some (wr.alloc o).drew.heap.size)->∃csl',CelR Z w (w5.setCell ⟨w.heap.size+1+1+1,4,none⟩ v5) vd (.slice (some ⟨b,off,none⟩) t.lines.length cap) ((t.lines.take (k+1)).map LineD.when_) v5 csl' from λw5 v5 o hg ho hat=>by
    rw[take_succ_get hlt,List.map_append];have hh:=HCR.out;rw[hkl]at hh
    exact⟨_,HCR.out.push (by rw[hkl];exact hg) (by rw[hkl];exact ho) (by rw[hkl];exact hat) hfm⟩)
   have MKX:=hid (λ(w5:World)(o:Obj)(hg:(wr.alloc o).drew.grownBy w5 (Value.slice KA k kcap).ownBlock)=>(hcr.fb.alloc o).drew.grown hg (by have h:=hcr.ne;rw[hkl]at h;exact h));clear hcr hc hcb hR hfm HCR HC hkl;generalize t.lines[k]=x at*;obtain⟨⟨op,nm,cm,nu,kids⟩,cls,ctl⟩:=x;dsimp only[Fm.op,Fm.name,Fm.cmp,Fm.num,Fm.kids]at*;go_wp2;go_region_law(refine step_append1 rfl (.tmp 19) (.tmp 26) _ rfl Tryz.underlying45 Tryz.eFmC rfl (HOW.out.alloc _) rfl (news:=[.int .i64 op,.string nm,.int .i64 cm,.int .i64 nu,.slice FA kids.length fcap]) rfl (blkc (cs:=[.int .i64 op,.string nm,.int .i64 cm,.int .i64 nu,.slice FA kids.length fcap]) (t:=47) (g:=wr.heap.size) (by have:=Blk.new wr 47 #[.int .i64 op,.string nm,.int .i64 cm,.int .i64 nu,.slice FA kids.length fcap];exact this.drew)) (by simp[Value.oneCell']) (by unfold maxLen;omega) (by omega) (by show w.heap.size≤(wr.alloc _).heap.size;simp;omega) ?_;intro v5 w5 hown5 hg5 hat5;obtain⟨g5,cap5,hv5⟩:=own_form hown5;subst hv5;have hM5:=MKX.out _ _ hg5;have d4:=hM5.at4;have d5:=hM5.frozen 4;have d6:=hM5.lt)
   all_goals
    obtain⟨csl',hnx⟩:=HNX.out _ _ _ hg5 hown5 hat5;have HN:=hid hnx;clear hnx hown5 hg5 hat5;(go_wp2_with fail);go_roundw;(case rel=>exact⟨k+1,_,csl',by omega,by go_num,HN.out⟩);case measure=>simp[intOf];omega
  ·(obtain rfl:k=t.lines.length:=by omega);(rename World=>w1);have HCR1:=hid (show CelR Z w w1 vd (.slice A t.lines.length cap) (t.lines.map LineD.when_) (.slice KA t.lines.length kcap) csl from by have h:=HCR.out;rw[List.take_length]at h;simpa using h);clear hcr HCR HC hkl hlt hk;have z1:=HCR1.out.zb.at1;have zl:=HCR1.out.zb.lt;(go_wp2_with fail);go_loopw[9] (λiv wr=>iv= .int .i64 0∧wr=w1) (λ_ _=>0);case atStart=>exact⟨rfl,rfl⟩
   case round=>
    obtain⟨rfl,hwr⟩:=hrel;subst hwr;obtain⟨FA,fcap,hv,hfm⟩:=HCR1.out.fm HZ.out (by rw[List.length_map];omega);rw[List.length_map]at hv hfm;injection hv with q1 _ q2;subst q1 q2
    have HCC:=hid (refCells_any (λb=>Z b∨w.heap.size≤b) Z (Fm.mk 5 ⟨#[]⟩ 0 0 (t.lines.map LineD.when_)) _ vd t.dom 2000 wr hfm (HT.out.d.keep (Keeps.of_below HCR1.out.be)) (by
     show fsize (Fm.mk 5 ⟨#[]⟩ 0 0 (t.lines.map LineD.when_))≤1000;rw[fsize];have h1:=fsizes_le (l:=t.lines.map LineD.when_) (n:=40) (λf hf=>by obtain⟨x,hx,rfl⟩:=List.mem_map.1 hf;exact H40.out x hx);rw[List.length_map]at h1
     omega) (by decide) (by decide))
    have f0:=HCR1.out.fb.at0;have f1:=HCR1.out.fb.at1;have f2:=HCR1.out.fb.at2;have f3:=HCR1.out.fb.at3;have f4:=HCR1.out.fb.at4;have fl:=HCR1.out.fb.lt;have d0:=HCR1.out.db.at0;have dl:=HCR1.out.db.lt;have HBE:=hid HCR1.out.be;generalize cellsR (Fm.mk 5 ⟨#[]⟩ 0 0 (t.lines.map LineD.when_)) 2000 t.dom 1=q at*;clear hfm;(go_wp2_with fail);refine HCC.out.mono ?_;rintro e w2 ⟨rfl,hb⟩;clear f0 f1 f2 f3 f4 fl d0 dl z1 zl;have HB2:=hid (HBE.out.trans (hb.mono HBE.out.size));by_cases hq:q≤2000
    ·(go_wp2_with fail);go_ret;exact⟨_,rfl,HB2.out⟩
    ·(go_wp2_with fail);go_ret;exact⟨_,rfl,HB2.out⟩
end
section
open Go.Shelf
def FineB(t:TarD)(w:World)(e:Ending)(w':World):Prop:=∃b:Bool,e= .returned (.bool b)∧Below w.heap.size w w'∧(b=true->t.fine)
theorem few27_any(Z:Zone)(vd vl:Value)(t:TarD)(w:World)(ht:TarR Z w vd vl t)(hz:∀b,Z b->b<w.heap.size):
  Calls Tryz.prog 18 #[.agg #[vd,vl]] w (FineB t w):=by
 obtain⟨⟨A,cap,rfl,hll,hcp,-,hs⟩⟩:=ht.l;obtain⟨⟨D,dcap,rfl,-,-,-,-⟩,-⟩:=ht.d;have HS:=hid (And.intro hs hz);have HT:=hid (λW(hW:Below w.heap.size w W)=>ht.keep (Keeps.of_below hW));have hzw:=hid (λW(hW:Below w.heap.size w W)(b:Nat)(hb:Z b)=>Nat.lt_of_lt_of_le (hz b hb) hW.size);have bt:=Blk.new w 27 #[.slice D t.dom.length dcap,.slice A t.lines.length cap];have hb0:=below1 w (.cells #[.slice D t.dom.length dcap,.slice A t.lines.length cap] 27);have hlb:t.lines.length≤9223372036854775807:=by omega
 clear hs hz ht;go_enter Tryz.func18,Tryz.ntmps18
 go_upto_region 1 with fail
 generalize w.alloc (.cells #[.slice D t.dom.length dcap,.slice A t.lines.length cap] 27)=w0 at*;have HB0:=hid (And.intro bt hb0);clear bt hb0;go_wp2_with fail
 go_loopw[3] (λiv wr=>∃k:Nat,k≤t.lines.length∧k≤8∧iv= .int .i64 k∧Hid (∀x∈t.lines.take k,fsize x.when_≤40)∧Hid (Blk wr w.heap.size 27 #[.slice D t.dom.length dcap,.slice A t.lines.length cap])∧Hid (Below w.heap.size w wr)) (λiv _=>t.lines.length-(intOf iv).toNat);case atStart=>exact⟨0,Nat.zero_le _,by omega,rfl,hid (by simp),hid HB0.out.1,hid HB0.out.2⟩
 case round=>
  obtain⟨k,hk,hk8,rfl,H40,HBT,HBE⟩:=hrel;have b1:=HBT.out.at1;have bl:=HBT.out.lt;by_cases hlt:k<t.lines.length∧k<8
  ·obtain⟨hlt,hlt8⟩:=hlt;obtain⟨b,off,cs,rfl,hzb,hc,hR⟩:=HS.out.1.at_ hlt;obtain⟨FA,fcap,rfl,hfm⟩:=hR.form;have hcb:=cells_below HBE.out (HS.out.2 b hzb) hc;have c0:wr.cell? ⟨b,off+k*7,none⟩=_:=hcb 0 _ rfl;have c1:wr.cell? ⟨b,off+k*7+1,none⟩=_:=hcb 1 _ rfl;have c2:wr.cell? ⟨b,off+k*7+2,none⟩=_:=hcb 2 _ rfl;have c3:wr.cell? ⟨b,off+k*7+3,none⟩=_:=hcb 3 _ rfl;have c4:wr.cell? ⟨b,off+k*7+4,none⟩=_:=hcb 4 _ rfl;have c5:wr.cell? ⟨b,off+k*7+5,none⟩=_:=hcb 5 _ rfl;have cl:=lt_of_cell c0;have HSM:=hid (refSmall_any Z t.lines[k].when_ _ 40 wr (FmR.keep (Keeps.of_below HBE.out) _ _ hfm) (by decide) (by decide));have HNX:=hid (λ(h:fsize t.lines[k].when_ ≤40)=>take_step (P:=λ(x:LineD)=>fsize x.when_≤40) hlt H40.out h);(have hk1:((k:Nat):Int)<(t.lines.length:Int):=by omega);(have hk0:(0:Int)≤((k:Nat):Int):=by omega);(have hk2:((k:Nat):Int)<8:=by omega);clear hc hcb hR hfm;generalize t.lines[k]=x at*;obtain⟨⟨op,nm,cm,nu,kids⟩,cls,ctl⟩:=x;dsimp only[Fm.op,Fm.name,Fm.cmp,Fm.num,Fm.kids]at*;by_cases hcl:cls.size≤100
   ·by_cases hsz:fsize (Fm.mk op nm cm nu kids)≤40
    ·have HN:=hid (HNX.out hsz);have hd:decide ((fsize (Fm.mk op nm cm nu kids):Int)≤40)=true:=decide_eq_true (by omega);rw[hd]at HSM;clear HNX hsz hd;(go_wp2_with fail);refine HSM.out.mono ?_;rintro e w2 ⟨rfl,hb⟩;have HB2:=hid (HBT.out.below hb HBT.out.lt);have HE2:=hid (HBE.out.trans (hb.mono HBE.out.size));clear hb b1 bl c0 c1 c2 c3 c4 c5 cl HSM;(go_wp2_with fail);go_roundw;(case rel=>exact⟨k+1,by omega,by omega,by go_num,HN,HB2,HE2⟩);case measure=>simp[intOf];omega
    ·have hd:decide ((fsize (Fm.mk op nm cm nu kids):Int)≤40)=false:=decide_eq_false (by omega);rw[hd]at HSM;clear HNX hsz hd;(go_wp2_with fail);refine HSM.out.mono ?_;rintro e w2 ⟨rfl,hb⟩;have HE2:=hid (HBE.out.trans (hb.mono HBE.out.size));clear hb b1 bl c0 c1 c2 c3 c4 c5 cl HSM;(go_wp2_with fail);go_ret;exact⟨false,rfl,HE2.out,λh=>by cases h⟩
   ·clear HNX HSM;(go_wp2_with fail);go_ret;exact⟨false,rfl,HBE.out,λh=>by cases h⟩
  ·(rename World=>w1);have HEX:=hid (show k<t.lines.length->k=8 from λh=>by omega);have HF:=hid (few24_any Z _ t.dom 24 (by unfold I64;omega) w1 (HT.out w1 HBE.out).d (hzw.out w1 HBE.out));have b0:=HBT.out.at0;(have hcond:¬(((k:Nat):Int)<(t.lines.length:Int)∧((k:Nat):Int)<8):=by omega);clear HB0;by_cases hkl:((k:Nat):Int)<(t.lines.length:Int)
   ·(have hk8':¬((k:Nat):Int)<8:=λh=>hcond ⟨hkl,h⟩);(have hgt:¬((t.lines.length:Nat):Int)≤8:=by omega);clear hcond hlt;(go_wp2_with fail);refine HF.out.mono ?_;rintro e w2 ⟨b24,rfl,hb⟩;have HB2:=hid (HBT.out.below hb HBT.out.lt);have HE2:=hid (HBE.out.trans (hb.mono HBE.out.size));clear hb b0 b1 bl HF;have b1:=HB2.out.at1;have bl:=HB2.out.lt;cases b24
    ·(go_wp2_with fail);go_ret;exact⟨false,rfl,HE2.out,λh=>by cases h⟩
    ·(go_wp2_with fail);go_ret;exact⟨false,rfl,HE2.out,λh=>by cases h⟩
   ·(have hle:((t.lines.length:Nat):Int)≤8:=by omega);have HFI:=hid (show ∀x∈t.lines,fsize x.when_≤40 from by have h:=H40.out;rwa[List.take_of_length_le (by omega)]at h);clear hcond hlt;(go_wp2_with fail);refine HF.out.mono ?_;rintro e w2 ⟨b24,rfl,hb⟩;have HB2:=hid (HBT.out.below hb HBT.out.lt);have HE2:=hid (HBE.out.trans (hb.mono HBE.out.size));clear hb b0 b1 bl HF;have b0:=HB2.out.at0;have b1:=HB2.out.at1;have bl:=HB2.out.lt;cases b24
    ·(go_wp2_with fail);go_ret;exact⟨false,rfl,HE2.out,λh=>by cases h⟩
    ·have HC:=hid (cells27_any Z _ _ t w2 (HT.out w2 HE2.out) (hzw.out w2 HE2.out) (by omega) HFI.out);(go_wp2_with fail);refine HC.out.mono ?_;rintro e w3 ⟨b,rfl,hb⟩;have HE3:=hid (HE2.out.trans (hb.mono HE2.out.size));clear hb b0 b1 bl HC;(go_wp2_with fail);go_ret;exact⟨b,rfl,HE3.out,λ_ x hx=>Nat.le_trans (HFI.out x hx) (by decide)⟩
theorem small28_any(Z:Zone)(vd vl v vr:Value)(t:TarD)(l:List ProdD)(r:List RateD)(base id:ByteArray)(w:World)(ht:TarR Z w vd vl t)(h:Prods Z w v l)(hr:Rates Z w vr r)(hz:∀b,Z b->b<w.heap.size)(hb1:base.size≤140737488355328)(hb2:id.size≤140737488355328):
  Calls Tryz.prog 5 #[.agg #[vd,vl],v,vr,.string base,.string id] w (FineB t w):=by
 have HF:=hid (λW(hW:Below w.heap.size w W)=>few27_any Z vd vl t W (ht.keep (Keeps.of_below hW)) (λb hb=>Nat.lt_of_lt_of_le (hz b hb) hW.size));have HP:=hid (λW(hW:Below w.heap.size w W)=>few28_any Z Z v vr l r 10 W (h.keep (Keeps.of_below hW)) (hr.keep (Keeps.of_below hW)));obtain⟨A,cap,hv,-,-⟩:=h.form;obtain⟨A2,cap2,hvl⟩:∃A2 cap2,vl= .slice A2 t.lines.length cap2:=by obtain⟨⟨A2,cap2,e,_⟩⟩:=ht.l;exact⟨A2,cap2,e⟩
 obtain⟨A3,cap3,hvd⟩:∃A3 cap3,vd= .slice A3 t.dom.length cap3:=by obtain⟨⟨A3,cap3,e,_⟩,_⟩:=ht.d;exact⟨A3,cap3,e⟩
 obtain⟨A4,cap4,hvr⟩:∃A4 cap4,vr= .slice A4 r.length cap4:=by obtain⟨⟨A4,cap4,e,_⟩,_⟩:=hr;exact⟨A4,cap4,e⟩
 subst hv hvl hvd hvr;generalize fewP l r 10=fb at*;clear ht h hr hz;generalize t.dom.length=dl at*;generalize t.lines.length=nl at*;generalize r.length=rl at*;generalize l.length=ll at*;have bt:=Blk.new w 27 #[.slice A3 dl cap3,.slice A2 nl cap2];have hb0:=below1 w (.cells #[.slice A3 dl cap3,.slice A2 nl cap2] 27);go_enter Tryz.func5,Tryz.ntmps5
 go_upto_region 1 with fail
 generalize w.alloc (.cells #[.slice A3 dl cap3,.slice A2 nl cap2] 27)=w0 at*;have a0:=bt.at0;have a1:=bt.at1;have al:=bt.lt;have HB0:=hid hb0;clear bt hb0;go_wp2_with fail
 refine(HF.out w0 HB0.out).mono ?_;rintro e w1 ⟨b,rfl,hb,hf⟩;have HE1:=hid (HB0.out.trans (hb.mono HB0.out.size));cases b
 ·clear hb hf a0 a1 al HF;go_wp2_with fail
  go_ret;exact⟨_,rfl,HE1.out,λh=>by cases h⟩
 ·have HFF:=hid (hf rfl);clear hb hf a0 a1 al HF;go_wp2_with fail
  refine(HP.out w1 HE1.out).mono ?_;rintro e w2 ⟨rfl,hw⟩;subst hw;cases fb
  ·(go_wp2_with fail);go_ret;exact⟨_,rfl,HE1.out,λ_=>HFF.out⟩
  ·by_cases h1:base.size≤60
   ·(go_wp2_with fail);go_ret;exact⟨_,rfl,HE1.out,λ_=>HFF.out⟩
   ·(go_wp2_with fail);go_ret;exact⟨_,rfl,HE1.out,λ_=>HFF.out⟩
end
section
open Go.Shelf
abbrev zrV:Value:= .agg #[.bool false,.string ⟨#[]⟩,.string ⟨#[]⟩]
theorem valid_nil(w:World):Calls Tryz.prog 70 #[zrV] w λe w'=>e= .returned (.bool false)∧Below w.heap.size w w':=by
 have HI:=hid (λ(W:World)=>nis_no W);go_enter Tryz.func70,Tryz.ntmps70
 have hB0:=below1 w (.cells #[.bool false,.string ⟨#[]⟩,.string ⟨#[]⟩] 53);go_wp2_with fail
 refine(HI.out _).mono ?_;rintro e w1 ⟨rfl,hw⟩;subst hw;go_wp2_with fail
 go_ret;exact⟨rfl,hB0⟩
section bad
variable {w:World} {ax bx:Bool} {sy sz ty tz:ByteArray} {x1 x2:Bool}
theorem run_bad(F:Nat)(z:Bool)(h1:∀W,Below w.heap.size w W->Calls Tryz.prog 70 #[.agg #[.bool ax,.string sy,.string sz]] W λe w'=>e= .returned (.bool x1)∧Below W.heap.size W w')
  (h2:∀W,Below w.heap.size w W->Calls Tryz.prog 70 #[.agg #[.bool bx,.string ty,.string tz]] W λe w'=>e= .returned (.bool x2)∧Below W.heap.size W w')(hx:(x1&&x2)=false):
  Calls Tryz.prog 36 #[.agg #[.bool z,.func (.func F) #[] #[]],.agg #[.bool ax,.string sy,.string sz],.agg #[.bool bx,.string ty,.string tz]] w λe w'=>e= .returned (.tuple #[zrV,.int .i64 1])∧Below w.heap.size w w':=by
 have H1:=hid h1;have H2:=hid h2;clear h1 h2;go_enter Tryz.func36,Tryz.ntmps36
 go_wp2_with fail
 have h3:=R3.new (below1 w (.cells #[.bool z,.func (.func F) #[] #[]] 87)) ax sy sz bx ty tz;rw[World.size_alloc]at h3;generalize (((w.alloc (.cells #[.bool z,.func (.func F) #[] #[]] 87)).alloc (.cells #[.bool ax,.string sy,.string sz] 53)).alloc (.cells #[.bool bx,.string ty,.string tz] 53)).alloc (.cells #[.bool false,.string ⟨#[]⟩,.string ⟨#[]⟩] 53)=w0 at*;refine(H1.out _ h3.be).mono ?_;rintro e w1 ⟨rfl,hb1⟩;replace h3:=h3.below hb1;have c0:=h3.bb.at0;have c1:=h3.bb.at1;have c2:=h3.bb.at2;have r0:=h3.br.at0;have r1:=h3.br.at1;have r2:=h3.br.at2;have g0:=h3.br.frozen 0;have g1:=h3.br.frozen 1;have g2:=h3.br.frozen 2;have rl:=h3.br.lt;have hle:w.heap.size≤w.heap.size+1+1+1:=by omega
 have H3:=hid h3;clear h3 hb1 H1;cases x1
 ·go_wp2_with fail
  have HR:=((H3.out.br.set_ 0 (.bool false)).set_ 1 (.string ⟨#[]⟩)).set_ 2 (.string ⟨#[]⟩);have HB:=((H3.out.be.setCell (p:=⟨w.heap.size+1+1+1,0,none⟩) hle (.bool false)).setCell (p:=⟨w.heap.size+1+1+1,1,none⟩) hle (.string ⟨#[]⟩)).setCell (p:=⟨w.heap.size+1+1+1,2,none⟩) hle (.string ⟨#[]⟩);have r0:=HR.at0;have r1:=HR.at1;have r2:=HR.at2;exact bodyPost_ret (v:= .tuple #[zrV,.int .i64 1]) (by simp[results,Tryz.results36,go_sem,r0,r1,r2]) rfl ⟨rfl,HB⟩
 ·have hx2:x2=false:=by simpa using hx
  subst hx2;clear r0 r1 r2 g0 g1 g2 rl;go_wp2_with fail
  refine(H2.out _ H3.out.be).mono ?_;rintro e w2 ⟨rfl,hb2⟩;have h3:=H3.out.below hb2;clear c0 c1 c2 hb2;have r0:=h3.br.at0;have r1:=h3.br.at1;have r2:=h3.br.at2;have g0:=h3.br.frozen 0;have g1:=h3.br.frozen 1;have g2:=h3.br.frozen 2;have rl:=h3.br.lt;have H3:=hid h3;clear h3;go_wp2_with fail
  have HR:=((H3.out.br.set_ 0 (.bool false)).set_ 1 (.string ⟨#[]⟩)).set_ 2 (.string ⟨#[]⟩);have HB:=((H3.out.be.setCell (p:=⟨w.heap.size+1+1+1,0,none⟩) hle (.bool false)).setCell (p:=⟨w.heap.size+1+1+1,1,none⟩) hle (.string ⟨#[]⟩)).setCell (p:=⟨w.heap.size+1+1+1,2,none⟩) hle (.string ⟨#[]⟩);have r0:=HR.at0;have r1:=HR.at1;have r2:=HR.at2;exact bodyPost_ret (v:= .tuple #[zrV,.int .i64 1]) (by simp[results,Tryz.results36,go_sem,r0,r1,r2]) rfl ⟨rfl,HB⟩
theorem sub_bad(h1:∀W,Below w.heap.size w W->Calls Tryz.prog 70 #[.agg #[.bool ax,.string sy,.string sz]] W λe w'=>e= .returned (.bool x1)∧Below W.heap.size W w')
  (h2:∀W,Below w.heap.size w W->Calls Tryz.prog 70 #[.agg #[.bool bx,.string ty,.string tz]] W λe w'=>e= .returned (.bool x2)∧Below W.heap.size W w')(hx:(x1&&x2)=false):
  Calls Tryz.prog 37 #[.agg #[.bool ax,.string sy,.string sz],.agg #[.bool bx,.string ty,.string tz]] w λe w'=>e= .returned (.tuple #[zrV,.int .i64 1])∧Below w.heap.size w w':=by
 have HR:=hid (λW(hW:Below w.heap.size w W)=>run_bad (w:=W) 75 false (λW' hW'=>h1 W' (hW.trans (hW'.mono hW.size))) (λW' hW'=>h2 W' (hW.trans (hW'.mono hW.size))) hx);clear h1 h2;go_enter Tryz.func37,Tryz.ntmps37
 go_wp2_with fail
 have h3:=R3.new (Below.refl w.heap.size w) ax sy sz bx ty tz;generalize ((w.alloc (.cells #[.bool ax,.string sy,.string sz] 53)).alloc (.cells #[.bool bx,.string ty,.string tz] 53)).alloc (.cells #[.bool false,.string ⟨#[]⟩,.string ⟨#[]⟩] 53)=w0 at*;refine(HR.out _ h3.be).mono ?_;rintro e w1 ⟨rfl,hb1⟩;have h4:=h3.below hb1;clear h3 hb1 HR;have q0:=h4.br.at0;have q1:=h4.br.at1;have q2:=h4.br.at2;have g0:=h4.br.frozen 0;have g1:=h4.br.frozen 1;have g2:=h4.br.frozen 2;have gl:=h4.br.lt;have HH:=hid h4;clear h4;go_wp2_with fail
 have HO:=HH.out.out false ⟨#[]⟩ ⟨#[]⟩;have r0:=HO.1.at0;have r1:=HO.1.at1;have r2:=HO.1.at2;exact bodyPost_ret (v:= .tuple #[zrV,.int .i64 1]) (by simp[results,Tryz.results37,go_sem,r0,r1,r2]) rfl ⟨rfl,HO.2⟩
theorem compare_bad(h1:∀W,Below w.heap.size w W->Calls Tryz.prog 70 #[.agg #[.bool ax,.string sy,.string sz]] W λe w'=>e= .returned (.bool x1)∧Below W.heap.size W w')
  (h2:∀W,Below w.heap.size w W->Calls Tryz.prog 70 #[.agg #[.bool bx,.string ty,.string tz]] W λe w'=>e= .returned (.bool x2)∧Below W.heap.size W w')(hx:(x1&&x2)=false):
  Calls Tryz.prog 14 #[.agg #[.bool ax,.string sy,.string sz],.agg #[.bool bx,.string ty,.string tz]] w λe w'=>e= .returned (.tuple #[.int .i64 0,.int .i64 1])∧Below w.heap.size w w':=by
 have HS:=hid (λW(hW:Below w.heap.size w W)=>sub_bad (w:=W) (λW' hW'=>h1 W' (hW.trans (hW'.mono hW.size))) (λW' hW'=>h2 W' (hW.trans (hW'.mono hW.size))) hx);clear h1 h2;have hB:Below w.heap.size w ((w.alloc (.cells #[.bool ax,.string sy,.string sz] 53)).alloc (.cells #[.bool bx,.string ty,.string tz] 53)):=(below1 w _).alloc (by simp) _;go_enter Tryz.func14,Tryz.ntmps14
 go_wp2_with fail
 generalize (w.alloc (.cells #[.bool ax,.string sy,.string sz] 53)).alloc (.cells #[.bool bx,.string ty,.string tz] 53)=w0 at*;refine(HS.out _ hB).mono ?_;rintro e w1 ⟨rfl,hb1⟩;have hB1:Below w.heap.size w (w1.alloc (.cells #[.bool false,.string ⟨#[]⟩,.string ⟨#[]⟩] 53)):=(HBEL_trans hB hb1).alloc (HBEL_trans hB hb1).size _;clear hB hb1 HS;go_wp2_with fail
 go_ret2;exact⟨rfl,hB1⟩
end bad
def cmpE(x y:Rt × Int):Int × Int:=if x.2=0∧y.2=0 then cmpR x.1 y.1 else(0,1)
theorem compareE_any(x y:Rt × Int)(hx:x.2=0->RtOk x.1)(hy:y.2=0->RtOk y.1)(w:World)(htab:TabB w.heap.size w):
  Calls Tryz.prog 14 #[rtE x,rtE y] w λe w'=>e= .returned (.tuple #[.int .i64 (cmpE x y).1,.int .i64 (cmpE x y).2])∧Below w.heap.size w w':=by
 have hv:∀z:Rt × Int,(z.2=0->RtOk z.1)->∃(a:Bool)(b c:ByteArray)(v:Bool),rtE z= .agg #[.bool a,.string b,.string c]∧(v=true↔z.2=0)∧∀W,Below w.heap.size w W->Calls Tryz.prog 70 #[.agg #[.bool a,.string b,.string c]] W λe w'=>e= .returned (.bool v)∧Below W.heap.size W w':=by
  intro z hz;by_cases h0:z.2=0
  ·refine⟨z.1.neg,dstr z.1.num,dstr z.1.den,true,?_,by simp[h0],λW hW=>rvalid_any z.1 (hz h0) W ((htab.on hW).mono hW.size)⟩;obtain⟨z1,z2⟩:=z;simp only at h0;subst h0;rfl
  ·refine⟨false,⟨#[]⟩,⟨#[]⟩,false,?_,by simp[h0],λW _=>valid_nil W⟩;obtain⟨z1,z2⟩:=z;exact if_neg h0
 by_cases h:x.2=0∧y.2=0
 ·obtain⟨x1,x2⟩:=x;obtain⟨y1,y2⟩:=y;obtain⟨h1,h2⟩:=h;simp only at h1 h2;subst h1 h2;unfold cmpE;rw[if_pos ⟨rfl,rfl⟩];exact rcompare_any x1 y1 (hx rfl) (hy rfl) w htab
 ·unfold cmpE;rw[if_neg h];obtain⟨a,b,c,v,e1,e2,hv1⟩:=hv x hx;obtain⟨a',b',c',v',e1',e2',hv2⟩:=hv y hy;rw[e1,e1']
  exact compare_bad hv1 hv2 (by
   cases v<;>cases v'<;>first|rfl|exact absurd ⟨e2.1 rfl,e2'.1 rfl⟩ h)
end
section
open Go.Shelf
structure ArgP (Z:Zone) (w:World) (vd vl v vr:Value) (t:TarD) (l:List ProdD) (r:List RateD) (base id:ByteArray):Prop where
 tar:TarR Z w vd vl t
 pr:Prods Z w v l
 ra:Rates Z w vr r
 live:∀b,Z b->b<w.heap.size
 bs:base.size≤140737488355328
 is:id.size≤140737488355328
 tab:TabB w.heap.size w
theorem ArgP.on{Z:Zone}{w W:World}{vd vl v vr:Value}{t:TarD}{l:List ProdD}{r:List RateD}{base id:ByteArray}(h:ArgP Z w vd vl v vr t l r base id)(hW:Below w.heap.size w W):ArgP Z W vd vl v vr t l r base id:=
 ⟨h.tar.keep (Keeps.of_below hW),h.pr.keep (Keeps.of_below hW),h.ra.keep (Keeps.of_below hW),λb hb=>Nat.lt_of_lt_of_le (h.live b hb) hW.size,h.bs,h.is,(h.tab.on hW).mono hW.size⟩
theorem ofR_rt{n:Int}(h: -10000≤n∧n≤10000):RtOk (ofR n 1):=(ofR_ok' (n:=n) (d:=1) (by omega) (by decide) (by decide)).1
theorem low_zero{x:Rt}(h:Low x)(h0:x.num=0):x=ofR 0 1:=by
 refine toQ_inj h (ofR_low (by decide)) ?_;rw[h.eq_zero.2 h0,ofR_q];rfl
end
section
open Go.Shelf
structure SumF (w W:World) (a:Bool) (b c:ByteArray) (pv:Array Value):Prop where
 f:Blk W w.heap.size 53 #[.bool a,.string b,.string c]
 p:Blk W (w.heap.size+1) 42 pv
 r:Blk W (w.heap.size+1+1) 53 #[.bool false,.string ⟨#[]⟩,.string ⟨#[]⟩]
 be:Below w.heap.size w W
section
variable {w W W':World} {a:Bool} {b c:ByteArray} {pv:Array Value}
theorem SumF.below(h:SumF w W a b c pv)(hb:Below W.heap.size W W'):SumF w W' a b c pv:=
 ⟨h.f.below hb h.f.lt,h.p.below hb h.p.lt,h.r.below hb h.r.lt,HBEL_trans h.be hb⟩
theorem SumF.new(w:World)(a:Bool)(b c:ByteArray)(pv:Array Value):SumF w (((w.alloc (.cells #[.bool a,.string b,.string c] 53)).alloc (.cells pv 42)).alloc (.cells #[.bool false,.string ⟨#[]⟩,.string ⟨#[]⟩] 53)) a b c pv:=by
 have h1:=Blk.new (w.alloc (.cells #[.bool a,.string b,.string c] 53)) 42 pv;have h2:=Blk.new ((w.alloc (.cells #[.bool a,.string b,.string c] 53)).alloc (.cells pv 42)) 53 #[.bool false,.string ⟨#[]⟩,.string ⟨#[]⟩];rw[World.size_alloc]at h1;rw[World.size_alloc,World.size_alloc]at h2;exact⟨((Blk.new w _ _).alloc _).alloc _,h1.alloc _,h2,((below1 w _).alloc (by simp) _).alloc (by simp;omega) _⟩
theorem SumF.out(h:SumF w W a b c pv)(x:Bool)(y z:ByteArray):
  Blk (((W.setCell ⟨w.heap.size+1+1,0,none⟩ (.bool x)).setCell ⟨w.heap.size+1+1,1,none⟩ (.string y)).setCell ⟨w.heap.size+1+1,2,none⟩ (.string z)) (w.heap.size+1+1) 53 #[.bool x,.string y,.string z]∧Below w.heap.size w (((W.setCell ⟨w.heap.size+1+1,0,none⟩ (.bool x)).setCell ⟨w.heap.size+1+1,1,none⟩ (.string y)).setCell ⟨w.heap.size+1+1,2,none⟩ (.string z)):=
 ⟨((h.r.set_ 0 _).set_ 1 _).set_ 2 _,((h.be.setCell (by show _≤w.heap.size+1+1;omega) _).setCell (by show _≤w.heap.size+1+1;omega) _).setCell (by show _≤w.heap.size+1+1;omega) _⟩
theorem SumF.put(h:SumF w W a b c pv)(x:Bool)(y z:ByteArray):SumF w (((W.setCell ⟨w.heap.size,0,none⟩ (.bool x)).setCell ⟨w.heap.size,1,none⟩ (.string y)).setCell ⟨w.heap.size,2,none⟩ (.string z)) x y z pv:=
 ⟨((h.f.set_ 0 _).set_ 1 _).set_ 2 _,((h.p.far (by show _≠w.heap.size;omega) _).far (by show _≠w.heap.size;omega) _).far (by show _≠w.heap.size;omega) _,
  ((h.r.far (by show _≠w.heap.size;omega) _).far (by show _≠w.heap.size;omega) _).far (by show _≠w.heap.size;omega) _,
  ((h.be.setCell (by show _≤w.heap.size;omega) _).setCell (by show _≤w.heap.size;omega) _).setCell (by show _≤w.heap.size;omega) _⟩
end
def SumO(w:World)(s:Rt × Bool)(e:Ending)(w':World):Prop:=
 ∃a b c,e= .returned (.tuple #[.agg #[.bool a,.string b,.string c],.bool s.2])∧(s.2=true-> .agg #[.bool a,.string b,.string c]=rtV s.1)∧Below w.heap.size w w'
theorem SumO.bad{w w':World}{s:Rt × Bool}{a:Bool}{b c:ByteArray}(h:s=(rt0,false))(hb:Below w.heap.size w w'):SumO w s (.returned (.tuple #[.agg #[.bool a,.string b,.string c],.bool false])) w':=by
 subst h;exact⟨a,b,c,rfl,(λh0=>by cases h0),hb⟩
theorem rtE_is{M:Rt × Int}(h:M.2=0):rtE M=rtV M.1:=by obtain⟨r,e⟩:=M;exact if_pos h
theorem sumG_cons(of:ByteArray->Rt × Int)(c:CompD)(L:List CompD)(x:Rt):sumG of (c::L) x=if(of c.prod).2≠0 then(rt0,false)else if(mulR (ofR c.cnt 1) (of c.prod).1).2≠0 then(rt0,false)else
  if(addR x (mulR (ofR c.cnt 1) (of c.prod).1).1).2≠0 then(rt0,false)else sumG of L (addR x (mulR (ofR c.cnt 1) (of c.prod).1).1).1:=rfl
end
section
open Go.Shelf
theorem wpList_eqRw{ops:Array Oper}{rest:List Oper}{o:Oper}{a:Act}{w:World}{Q:Exit->Act->World->Prop}(hgd:Region.wanted o (yielded ops a.tmps)=true)(x y:Operand)(ho:o.op= .binOp .eql 53 x y 53)(p q:Rt)(hx:a.eval x=rtV p)(hy:a.eval y=rtV q)
  (h:wpList Tryz.prog ops Q rest (a.put o.dst (.bool (decide (p=q)))) w):wpList Tryz.prog ops Q (o::rest) a w:=
 BigFrame.wpList_want hgd λK hK=>oper_eqR x y ho p q hx hy (hK _ _ h)
structure ValF (w W:World) (tv:Array Value) (lv rv:Value) (base:ByteArray) (day:Int):Prop where
 t:Blk W (w.heap.size) 27 tv
 l:Blk W (w.heap.size+1) 28 #[lv]
 r:Blk W (w.heap.size+1+1) 29 #[rv]
 b:Blk W (w.heap.size+1+1+1) 9 #[.string base]
 d:Blk W (w.heap.size+1+1+1+1) 3 #[.int .i64 day]
 be:Below w.heap.size w W
theorem ValF.below{w W W':World}{tv:Array Value}{lv rv:Value}{base:ByteArray}{day:Int}(h:ValF w W tv lv rv base day)(hb:Below W.heap.size W W'):ValF w W' tv lv rv base day:=
 ⟨h.t.below hb h.t.lt,h.l.below hb h.l.lt,h.r.below hb h.r.lt,h.b.below hb h.b.lt,h.d.below hb h.d.lt,HBEL_trans h.be hb⟩
theorem ValF.new(w:World)(tv:Array Value)(lv rv:Value)(base:ByteArray)(day:Int):ValF w (((((w.alloc (.cells tv 27)).alloc (.cells #[lv] 28)).alloc (.cells #[rv] 29)).alloc (.cells #[.string base] 9)).alloc (.cells #[.int .i64 day] 3)) tv lv rv base day:=by
 have h1:=Blk.new (w.alloc (.cells tv 27)) 28 #[lv];rw[World.size_alloc]at h1;have h2:=Blk.new ((w.alloc (.cells tv 27)).alloc (.cells #[lv] 28)) 29 #[rv];rw[World.size_alloc,World.size_alloc]at h2;have h3:=Blk.new (((w.alloc (.cells tv 27)).alloc (.cells #[lv] 28)).alloc (.cells #[rv] 29)) 9 #[.string base];rw[World.size_alloc,World.size_alloc,World.size_alloc]at h3;have h4:=Blk.new ((((w.alloc (.cells tv 27)).alloc (.cells #[lv] 28)).alloc (.cells #[rv] 29)).alloc (.cells #[.string base] 9)) 3 #[.int .i64 day];rw[World.size_alloc,World.size_alloc,World.size_alloc,World.size_alloc]at h4;exact⟨(((((Blk.new w _ _).alloc _).alloc _).alloc _).alloc _),(((h1.alloc _).alloc _).alloc _),((h2.alloc _).alloc _),(h3.alloc _),h4,((((below1 w _).alloc (by simp) _).alloc (by simp;omega) _).alloc (by simp;omega) _).alloc (by simp;omega) _⟩
def FoundP(l:List ProdD)(id:ByteArray)(i:Int):Prop:=(∃k,∃hk:k<l.length,i=(k:Int)∧prodOf l id=some l[k])∨(i= -1∧id∉idsP l)
theorem found_is(l:List ProdD)(id:ByteArray):FoundP l id (findP l id):=by
 rcases findP_spec l id with⟨k,hk,hI,-,hp,-⟩|⟨hI,-,hn⟩
 ·exact Or.inl ⟨k,hk,hI,hp⟩
 ·exact Or.inr ⟨hI,hn⟩
theorem prod_at{Z:Zone}{w:World}{A:Option Addr}{l:List ProdD}(hs:SeqR (λcs p=>ProdR Z w cs p) 5 Z w l A)(hz:∀b,Z b->b<w.heap.size){k:Nat}(hk:k<l.length):
  ∃pb poff CA ccap PA pcap,A=some ⟨pb,poff,none⟩∧Ints Z w (.slice CA l[k].cas.length ccap) l[k].cas ∧Comps Z w (.slice PA l[k].parts.length pcap) l[k].parts ∧l[k].fit ∧
   ∀W,Below w.heap.size w W->W.cell? ⟨pb,poff+k*5,none⟩=some (.string l[k].id)∧W.cell? ⟨pb,poff+k*5+1,none⟩=some (.slice CA l[k].cas.length ccap)∧W.cell? ⟨pb,poff+k*5+2,none⟩=some (.string l[k].cur)∧
    W.cell? ⟨pb,poff+k*5+3,none⟩=some (.int .i64 l[k].units)∧W.cell? ⟨pb,poff+k*5+4,none⟩=some (.slice PA l[k].parts.length pcap):=by
 obtain⟨b,off,cs,rfl,hzb,hc,hr⟩:=hs.at_ hk;obtain⟨CA,ccap,PA,pcap,rfl,h1,h2,h3⟩:=hr.form2;refine⟨b,off,CA,ccap,PA,pcap,rfl,h1,h2,h3,λW hW=> ?_⟩;have hcb:=cells_below hW (hz b hzb) hc;exact⟨hcb 0 _ rfl,hcb 1 _ rfl,hcb 2 _ rfl,hcb 3 _ rfl,hcb 4 _ rfl⟩
theorem cnt_check{t:TarD}{l:List ProdD}(h:checkP t l=0){k:Nat}(hk:k<l.length):∀c∈l[k].parts,-10000≤c.cnt∧c.cnt≤10000:=λc hc=>by
 have:=cntOk_of_check h l[k] (List.getElem_mem hk) c hc;omega
end
end Go.Proofs.YtimmfbnjndndlaaGreatDoor
