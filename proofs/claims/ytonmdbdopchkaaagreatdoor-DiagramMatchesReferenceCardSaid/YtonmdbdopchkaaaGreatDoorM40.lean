/- Texts V3. -/
import Derived.Test.YtonmdbdopchkaaaGreatDoorM32
set_option linter.all false
namespace Go.Proofs.YtonmdbdopchkaaaGreatDoor
open Go.RowKit
set_option maxHeartbeats 16000000
set_option maxRecDepth 100000
theorem Tryz.egValue:∀args w,(callFunc 91 args).run Tryz.prog w= .ok (.enter 91 args) w:=enters_of Tryz.func91 (by kernel_rfl) rfl
theorem zUj{ds:List zC}(hd:zR ds=true){nm:ByteArray}{k:Nat}(hk:k<ds.length)(e:ds[k].name =nm):(zV ds nm).toNat =k:=by
 have:=zGQ hd hk;rw[List.getD_eq_getElem?_getD,List.getElem?_eq_getElem hk,Option.getD_some,e]at this;omega
theorem zUW{ds:List zC}{nm:ByteArray}{k:Nat}(hk:k<ds.length)(h0:0≤zV ds nm)(e:ds[k].name ≠nm):(zV ds nm).toNat ≠k:=λh=>by
 have:=zGP (ds:=ds) (nm:=nm) (i:=k) (by omega);rw[List.getD_eq_getElem?_getD,List.getElem?_eq_getElem hk,Option.getD_some]at this;exact e this
theorem zM9(ds:List zC)(c:List Int):∀(l:List Fm)(k:Nat)(hk:k<l.length),zCK ds c (l.take k)=true->evF ds c l[k]=true->zCK ds c (l.take (k+1))=true
 |a::r,0,_,_,h=>by rw[List.take_succ_cons,List.take_zero,zCK,zCK];simp only[List.getElem_cons_zero]at h;rw[h];rfl
 |a::r,k+1,hk,h1,h2=>by
  rw[List.take_succ_cons,zCK,Bool.and_eq_true]at h1⊢;exact⟨h1.1,zM9 ds c r k (by simpa using hk) h1.2 (by simpa using h2)⟩
theorem zMa(ds:List zC)(c:List Int):∀(l:List Fm)(k:Nat)(hk:k<l.length),evF ds c l[k]=false->zCK ds c l=false
 |a::r,0,_,h=>by rw[zCK];simp only[List.getElem_cons_zero]at h;rw[h];rfl
 |a::r,k+1,hk,h=>by rw[zCK,zMa ds c r k (by simpa using hk) (by simpa using h),Bool.and_false]
theorem zMb(ds:List zC)(c:List Int):∀(l:List Fm)(k:Nat)(hk:k<l.length),zBb ds c (l.take k)=false->evF ds c l[k]=false->zBb ds c (l.take (k+1))=false
 |a::r,0,_,_,h=>by rw[List.take_succ_cons,List.take_zero,zBb,zBb];simp only[List.getElem_cons_zero]at h;rw[h];rfl
 |a::r,k+1,hk,h1,h2=>by
  rw[List.take_succ_cons,zBb,Bool.or_eq_false_iff]at h1⊢;exact⟨h1.1,zMb ds c r k (by simpa using hk) h1.2 (by simpa using h2)⟩
theorem zMc(ds:List zC)(c:List Int):∀(l:List Fm)(k:Nat)(hk:k<l.length),evF ds c l[k]=true->zBb ds c l=true
 |a::r,0,_,h=>by rw[zBb];simp only[List.getElem_cons_zero]at h;rw[h];rfl
 |a::r,k+1,hk,h=>by rw[zBb,zMc ds c r k (by simpa using hk) (by simpa using h),Bool.or_true]
structure Lst (P:Program) (ops:Array Oper) (Q:Exit->Act->World->Prop) (l:List Oper) (a:Act) (w:World):Prop where
 out:wpList P ops Q l a w
section
variable {P:Program} {ops:Array Oper} {rest:List Oper} {a:Act} {w:World} {Q:Exit->Act->World->Prop}
theorem Lst.skip{o:Oper}(h0:Region.wanted o (yielded ops a.tmps)=false)(hp:a.put o.dst undef=a)(h:Lst P ops Q rest a w):Lst P ops Q (o::rest) a w:=⟨by
 unfold wpList;rw[if_neg (by rw[h0];decide),hp]
 exact h.out⟩
theorem Lst.want{dst:Option Tmp}{op:Op}{ty:TypeId}{pos:String}{af:Array Edge}{g:Nat × Bool}(h0:Region.wanted ⟨dst,op,ty,pos,af,some g⟩ (yielded ops a.tmps)=true)(h:Lst P ops Q (⟨dst,op,ty,pos,af,none⟩::rest) a w):Lst P ops Q (⟨dst,op,ty,pos,af,some g⟩::rest) a w:=⟨by
 have h:=h.out;unfold wpList at h⊢;rw[if_pos h0]
 exact h⟩
theorem Lst.plain{o:Oper}(hg:o.guard=none)(h:∀K:Act->World->Prop,(∀a w,Lst P ops Q rest a w->K a w)->Oper.wp P o a w K Q):Lst P ops Q (o::rest) a w:=⟨wpList_plain hg λK hK=>h K λa w h=>hK a w h.out⟩
theorem Lst.nil(h:Q .normal a w):Lst P ops Q [] a w:=⟨wpList_nil h⟩
end
theorem zOL{ds:List zC}(hd:zR ds=true){c:List Int}(hcl:c.length=ds.length):∀(m:Nat)(f:Fm),zJ f≤m->m≤1000000->∀(Z Zd Zc:zD)(cs:List Value)(vd vc:Value)(w:World),FmR Z w f cs->Facts Zd w vd ds->zL Zc w vc c->okF ds f->
  Calls Tryz.prog 91 #[.agg cs.toArray,.agg #[vd],vc] w λe w'=>e= .returned (.bool (evF ds c f))∧Below w.heap.size w w':=by
 intro m
 induction m with
 |zero=>intro f hm;have:=zBE f;omega
 |succ m ih=>
 intro f hm hmm Z Zd Zc cs vd vc w hf hdd hc hok;have eg:=Tryz.egValue;have IH:=hid ih;clear ih;have hfm:zBB f=true∧zD0 ds f.kids∧(f.op=3->0≤zV ds f.name):=by cases f;exact zEh hok
 have hfs:=zBM f;have hev:=zNg ds c f;obtain⟨A,cap,rfl⟩:=FmR.form hf;have hks:zAT (λcs f=>FmR Z w f cs) 5 Z w f.kids A:=by cases f;unfold FmR at hf;obtain⟨_,_,_,_,A',cap',e,_,_,_,h⟩:=hf;injection e with _ e;injection e with _ e;injection e with _ e;injection e with _ e;injection e with e;injection e with e;subst e;exact zt.seq h
 have hkl:f.kids.length≤1000000:=by have:=zA8 f.kids;omega
 obtain⟨D,dcap,rfl,hdcap,hdlen,hdat⟩:=hdd.open_;obtain⟨C,ccap,rfl,hc1,hc2,hc3,hcr⟩:=hc.1;have HS:=hid hks;have HM:=hid (And.intro hm (And.intro hmm hfs));have HD:=hid hdat;have HDD:=hid hdd;have HC:=hid hc;have HCR:=hid hcr;have HVD:=hid hd;have HCL:=hid hcl;have HOK:=hid hfm.2.1;have HEV:=hid hev
 have hdl:ds.length≤60:=by
  unfold zR at hd;simp only[Bool.and_eq_true,decide_eq_true_eq]at hd;exact hd.2
 have hb0:=zAy w (.cells #[.int .i64 f.op,.string f.name,.int .i64 f.cmp,.int .i64 f.num,.slice A f.kids.length cap] 24) (.cells #[.slice D ds.length dcap] 27);have hbx:=(Blk.new w 24 #[.int .i64 f.op,.string f.name,.int .i64 f.cmp,.int .i64 f.num,.slice A f.kids.length cap]).alloc (.cells #[.slice D ds.length dcap] 27);have hbd:=Blk.new' (w.alloc (.cells #[.int .i64 f.op,.string f.name,.int .i64 f.cmp,.int .i64 f.num,.slice A f.kids.length cap] 24)) 27 #[.slice D ds.length dcap] (n:=w.heap.size+1) (by simp);have zZ:=hid (And.intro hbx (And.intro hbd hb0));have hparts:=zBh hfm.1;have h3i:=hfm.2.2;clear hf hks hdd hc hb0 hbx hbd hm hmm hfs hdat hcr hd hcl hfm hev hok;go_enter Tryz.func91,Tryz.ntmps91
 rcases hparts with hp|⟨-,⟨h|h,-⟩|⟨h,hk1⟩|⟨h|h,hk2⟩⟩
 ·obtain⟨h3,hk0,hc1,hc6,-⟩:=hp;have h0i:=h3i h3;have HE:=hid (HEV.out.trans (if_pos h3));have HIX:=hid (show zV ds f.name<ds.length from zKm);have HI0:=hid h0i;have hnum:I64 f.num∨True:=Or.inr trivial;clear hnum HEV;have h:=h3;have e1:(f.op==(1:Int))=false:=by simp[h]
  have e3:(f.op==(3:Int))=true:=by simp[h]
  have e4:(f.op==(4:Int))=false:=by simp[h]
  have e5:(f.op==(5:Int))=false:=by simp[h]
  have e6:(f.op==(6:Int))=false:=by simp[h]
  clear h h3 h3i hk0 h0i;go_wp2;clear e1 e3 e4 e5 e6;go_loopw[7,8] (λvv i wr=>∃(k:Nat)(v0:Int),k≤ds.length∧i= .int .i64 k∧vv= .int .i64 v0∧Hid (v0=if(zV ds f.name).toNat <k then c.getD (zV ds f.name).toNat 0 else 0)∧Blk wr w.heap.size 24 #[.int .i64 f.op,.string f.name,.int .i64 f.cmp,.int .i64 f.num,.slice A f.kids.length cap]∧Blk wr (w.heap.size+1) 27 #[.slice D ds.length dcap]∧Below w.heap.size w wr) (λ_ i _=>ds.length-(intOf i).toNat);case atStart=>exact⟨0,0,Nat.zero_le _,rfl,rfl,by simp[Hid],zZ.out⟩
  case round=>
   obtain⟨k,v0,hk,rfl,rfl,hv,hbx,hbd,hbel⟩:=hrel;have bl:=hbx.lt;have d0:=hbd.at0;have dl:=hbd.lt;have b1:=hbx.at1;have b2:=hbx.at2;have b3:=hbx.at3;have HB:=hid (And.intro hbx (And.intro hbd hbel));by_cases hlt:k<ds.length
   ·obtain⟨fb,foff,rfl,-,hfbl,x0,x1,x2,x3,hfit⟩:=HD.out k hlt;replace x0:=brd hbel x0 hfbl;have xl:=lt_of_cell x0;(have hkc:k<c.length:=by rw[HCL.out];exact hlt);obtain⟨cb,coff,rfl,-,hcc⟩:=HCR.out (by intro e;have:=congrArg List.length e;simp at this;subst this;simp at hkc)
    have y0:wr.cell? ⟨cb,coff+k,none⟩=some (.int .i64 (c.getD k 0)):=by
     have h:=hcc k (.int .i64 (c.getD k 0)) (by rw[List.getElem?_map,List.getD_eq_getElem?_getD,List.getElem?_eq_getElem hkc];rfl);exact brd hbel h (lt_of_cell h)
    have yl:=lt_of_cell y0;(have hk1:((k:Nat):Int)<(ds.length:Int):=by omega);(have hk2:((k:Nat):Int)<(c.length:Int):=by omega);(have hk3:(0:Int)≤((k:Nat):Int):=by omega);by_cases hnm:ds[k].name =f.name
    ·(have e1:(ds[k].name.toList ==f.name.toList)=true:=by rw[zAq];simp[hnm]);have HV:=hid (show c.getD k 0=if(zV ds f.name).toNat <k+1 then c.getD (zV ds f.name).toNat 0 else 0 from by rw[zUj HVD.out hlt hnm,if_pos (Nat.lt_succ_self k)]);clear hnm hv hbx hbd hbel hcc;generalize c.getD k 0=y at*;generalize ds[k]=x at*;go_wp2;go_quiet(fail);go_wp2;go_roundw;(case rel=>exact⟨k+1,y,by omega,by go_num,rfl,HV.out,HB.out.1.drewN _,HB.out.2.1.drewN _,below_drewN' HB.out.2.2 _⟩);case measure=>simp[intOf];omega
    ·have e1:(ds[k].name.toList ==f.name.toList)=false:=by rw[zAq];simp[hnm]
     have HV:=hid (show v0=if(zV ds f.name).toNat <k+1 then c.getD (zV ds f.name).toNat 0 else 0 from by
      rw[hv.out];have:=zUW hlt HI0.out hnm;by_cases h:(zV ds f.name).toNat <k
      ·rw[if_pos h,if_pos (by omega)]
      ·rw[if_neg h,if_neg (by omega)])
     clear hnm hv hbx hbd hbel hcc;generalize c.getD k 0=y at*;generalize ds[k]=x at*;go_wp2;go_quiet(fail);go_wp2;go_roundw;(case rel=>exact⟨k+1,v0,by omega,by go_num,rfl,HV.out,HB.out.1.drewN _,HB.out.2.1.drewN _,below_drewN' HB.out.2.2 _⟩);case measure=>simp[intOf];omega
   ·(obtain rfl:k=ds.length:=by omega);(have hv2:v0=c.getD (zV ds f.name).toNat 0:=by rw[hv.out,if_pos (by have:=HIX.out;have:=HI0.out;omega)]);rw[<-hv2]at HE;(have hcm:f.cmp=1∨f.cmp=2∨f.cmp=3∨f.cmp=4∨f.cmp=5∨f.cmp=6:=by omega);have zh:=hid hbel;have hkc2:((ds.length:Nat):Int)<(ds.length:Int)∨True:=Or.inr trivial;clear hv hv2 hbx hbd hbel hkc2 HB;clear HD HC HCR HVD HCL HOK HDD IH HS zZ eg;(go_upto_region 11 with fail);rcases hcm with h|h|h|h|h|h
    ·rw[h]at HE;(have k1:(f.cmp==(1:Int))=true:=by simp[h]);(have k2:(f.cmp==(2:Int))=false:=by simp[h]);(have k3:(f.cmp==(3:Int))=false:=by simp[h]);(have k4:(f.cmp==(4:Int))=false:=by simp[h]);(have k5:(f.cmp==(5:Int))=false:=by simp[h]);(have k6:(f.cmp==(6:Int))=false:=by simp[h]);clear h hc1 hc6;by_cases h:v0=f.num
     ·(have e:(v0==f.num)=true:=by simpa using h);have HR:=hid (HE.out.trans (show zBa v0 1 f.num=true from by unfold zBa;simp;omega));clear h HE;simp only[List.append_eq,List.cons_append,List.nil_append];refine wp_region_lit ?_;refine Lst.out ?_
      (iterate 4 (refine Lst.plain rfl λK hK=> ?_;(first|go_big_move|go_simp);refine hK _ _ ?_;clear hK K;(try simp only[nr])));(iterate 4 (refine Lst.want (by kernel_rfl) ?_;refine Lst.plain rfl λK hK=> ?_;(first|go_big_move|go_simp);refine hK _ _ ?_;clear hK K;(try simp only[nr])));(iterate 2 (refine Lst.plain rfl λK hK=> ?_;(first|go_big_move|go_simp);refine hK _ _ ?_;clear hK K;(try simp only[nr])))
      (iterate 5 ((iterate 9 (refine Lst.skip (by kernel_rfl) (by kernel_rfl) ?_));(iterate 2 (refine Lst.plain rfl λK hK=> ?_;(first|go_big_move|go_simp);refine hK _ _ ?_;clear hK K;(try simp only[nr])))))
      refine Lst.nil ?_;go_wp2;go_ret;exact⟨by rw[HR.out];rfl,zh.out⟩
     ·(have e:(v0==f.num)=false:=by simpa using h);have HR:=hid (HE.out.trans (show zBa v0 1 f.num=false from by unfold zBa;simp;omega));clear h HE;simp only[List.append_eq,List.cons_append,List.nil_append];refine wp_region_lit ?_;refine Lst.out ?_
      (iterate 4 (refine Lst.plain rfl λK hK=> ?_;(first|go_big_move|go_simp);refine hK _ _ ?_;clear hK K;(try simp only[nr])));(iterate 4 (refine Lst.want (by kernel_rfl) ?_;refine Lst.plain rfl λK hK=> ?_;(first|go_big_move|go_simp);refine hK _ _ ?_;clear hK K;(try simp only[nr])));(iterate 2 (refine Lst.plain rfl λK hK=> ?_;(first|go_big_move|go_simp);refine hK _ _ ?_;clear hK K;(try simp only[nr])))
      (iterate 5 ((iterate 4 (refine Lst.want (by kernel_rfl) ?_;refine Lst.plain rfl λK hK=> ?_;(first|go_big_move|go_simp);refine hK _ _ ?_;clear hK K;(try simp only[nr])));(iterate 4 (refine Lst.skip (by kernel_rfl) (by kernel_rfl) ?_));refine Lst.want (by kernel_rfl) ?_;refine Lst.plain rfl λK hK=> ?_;(first|go_big_move|go_simp);refine hK _ _ ?_;clear hK K;(try simp only[nr]);(iterate 2 (refine Lst.plain rfl λK hK=> ?_;(first|go_big_move|go_simp);refine hK _ _ ?_;clear hK K;(try simp only[nr])))))
      refine Lst.nil ?_;go_wp2;go_ret;exact⟨by rw[HR.out];rfl,zh.out⟩
    ·rw[h]at HE;(have k1:(f.cmp==(1:Int))=false:=by simp[h]);(have k2:(f.cmp==(2:Int))=true:=by simp[h]);(have k3:(f.cmp==(3:Int))=false:=by simp[h]);(have k4:(f.cmp==(4:Int))=false:=by simp[h]);(have k5:(f.cmp==(5:Int))=false:=by simp[h]);(have k6:(f.cmp==(6:Int))=false:=by simp[h]);clear h hc1 hc6;by_cases h:v0≠f.num
     ·(have e:(v0 !=f.num)=true:=by simpa using h);have HR:=hid (HE.out.trans (show zBa v0 2 f.num=true from by unfold zBa;simp;omega));clear h HE;simp only[List.append_eq,List.cons_append,List.nil_append];refine wp_region_lit ?_;refine Lst.out ?_
      (iterate 4 (refine Lst.plain rfl λK hK=> ?_;(first|go_big_move|go_simp);refine hK _ _ ?_;clear hK K;(try simp only[nr])));(iterate 4 (refine Lst.skip (by kernel_rfl) (by kernel_rfl) ?_));(iterate 2 (refine Lst.plain rfl λK hK=> ?_;(first|go_big_move|go_simp);refine hK _ _ ?_;clear hK K;(try simp only[nr])))
      (iterate 9 (refine Lst.want (by kernel_rfl) ?_;refine Lst.plain rfl λK hK=> ?_;(first|go_big_move|go_simp);refine hK _ _ ?_;clear hK K;(try simp only[nr])));(iterate 2 (refine Lst.plain rfl λK hK=> ?_;(first|go_big_move|go_simp);refine hK _ _ ?_;clear hK K;(try simp only[nr])))
      (iterate 4 ((iterate 9 (refine Lst.skip (by kernel_rfl) (by kernel_rfl) ?_));(iterate 2 (refine Lst.plain rfl λK hK=> ?_;(first|go_big_move|go_simp);refine hK _ _ ?_;clear hK K;(try simp only[nr])))))
      refine Lst.nil ?_;go_wp2;go_ret;exact⟨by rw[HR.out];rfl,zh.out⟩
     ·(have e:(v0 !=f.num)=false:=by simpa using h);have HR:=hid (HE.out.trans (show zBa v0 2 f.num=false from by unfold zBa;simp;omega));clear h HE;simp only[List.append_eq,List.cons_append,List.nil_append];refine wp_region_lit ?_;refine Lst.out ?_
      (iterate 4 (refine Lst.plain rfl λK hK=> ?_;(first|go_big_move|go_simp);refine hK _ _ ?_;clear hK K;(try simp only[nr])));(iterate 4 (refine Lst.skip (by kernel_rfl) (by kernel_rfl) ?_));(iterate 2 (refine Lst.plain rfl λK hK=> ?_;(first|go_big_move|go_simp);refine hK _ _ ?_;clear hK K;(try simp only[nr])))
      (iterate 9 (refine Lst.want (by kernel_rfl) ?_;refine Lst.plain rfl λK hK=> ?_;(first|go_big_move|go_simp);refine hK _ _ ?_;clear hK K;(try simp only[nr])));(iterate 2 (refine Lst.plain rfl λK hK=> ?_;(first|go_big_move|go_simp);refine hK _ _ ?_;clear hK K;(try simp only[nr])))
      (iterate 4 ((iterate 4 (refine Lst.want (by kernel_rfl) ?_;refine Lst.plain rfl λK hK=> ?_;(first|go_big_move|go_simp);refine hK _ _ ?_;clear hK K;(try simp only[nr])));(iterate 4 (refine Lst.skip (by kernel_rfl) (by kernel_rfl) ?_));refine Lst.want (by kernel_rfl) ?_;refine Lst.plain rfl λK hK=> ?_;(first|go_big_move|go_simp);refine hK _ _ ?_;clear hK K;(try simp only[nr]);(iterate 2 (refine Lst.plain rfl λK hK=> ?_;(first|go_big_move|go_simp);refine hK _ _ ?_;clear hK K;(try simp only[nr])))))
      refine Lst.nil ?_;go_wp2;go_ret;exact⟨by rw[HR.out];rfl,zh.out⟩
    ·rw[h]at HE;(have k1:(f.cmp==(1:Int))=false:=by simp[h]);(have k2:(f.cmp==(2:Int))=false:=by simp[h]);(have k3:(f.cmp==(3:Int))=true:=by simp[h]);(have k4:(f.cmp==(4:Int))=false:=by simp[h]);(have k5:(f.cmp==(5:Int))=false:=by simp[h]);(have k6:(f.cmp==(6:Int))=false:=by simp[h]);clear h hc1 hc6;by_cases h:v0<f.num
     ·(have e:decide (v0<f.num)=true:=by simpa using h);have HR:=hid (HE.out.trans (show zBa v0 3 f.num=true from by unfold zBa;simp;omega));clear h HE;simp only[List.append_eq,List.cons_append,List.nil_append];refine wp_region_lit ?_;refine Lst.out ?_
      (iterate 4 (refine Lst.plain rfl λK hK=> ?_;(first|go_big_move|go_simp);refine hK _ _ ?_;clear hK K;(try simp only[nr])));(iterate 4 (refine Lst.skip (by kernel_rfl) (by kernel_rfl) ?_));(iterate 2 (refine Lst.plain rfl λK hK=> ?_;(first|go_big_move|go_simp);refine hK _ _ ?_;clear hK K;(try simp only[nr])))
      (iterate 4 (refine Lst.want (by kernel_rfl) ?_;refine Lst.plain rfl λK hK=> ?_;(first|go_big_move|go_simp);refine hK _ _ ?_;clear hK K;(try simp only[nr])));(iterate 4 (refine Lst.skip (by kernel_rfl) (by kernel_rfl) ?_));refine Lst.want (by kernel_rfl) ?_;refine Lst.plain rfl λK hK=> ?_;(first|go_big_move|go_simp);refine hK _ _ ?_;clear hK K;(try simp only[nr]);(iterate 2 (refine Lst.plain rfl λK hK=> ?_;(first|go_big_move|go_simp);refine hK _ _ ?_;clear hK K;(try simp only[nr])))
      (iterate 9 (refine Lst.want (by kernel_rfl) ?_;refine Lst.plain rfl λK hK=> ?_;(first|go_big_move|go_simp);refine hK _ _ ?_;clear hK K;(try simp only[nr])));(iterate 2 (refine Lst.plain rfl λK hK=> ?_;(first|go_big_move|go_simp);refine hK _ _ ?_;clear hK K;(try simp only[nr])))
      (iterate 3 ((iterate 9 (refine Lst.skip (by kernel_rfl) (by kernel_rfl) ?_));(iterate 2 (refine Lst.plain rfl λK hK=> ?_;(first|go_big_move|go_simp);refine hK _ _ ?_;clear hK K;(try simp only[nr])))))
      refine Lst.nil ?_;go_wp2;go_ret;exact⟨by rw[HR.out];rfl,zh.out⟩
     ·(have e:decide (v0<f.num)=false:=by simpa using h);have HR:=hid (HE.out.trans (show zBa v0 3 f.num=false from by unfold zBa;simp;omega));clear h HE;simp only[List.append_eq,List.cons_append,List.nil_append];refine wp_region_lit ?_;refine Lst.out ?_
      (iterate 4 (refine Lst.plain rfl λK hK=> ?_;(first|go_big_move|go_simp);refine hK _ _ ?_;clear hK K;(try simp only[nr])));(iterate 4 (refine Lst.skip (by kernel_rfl) (by kernel_rfl) ?_));(iterate 2 (refine Lst.plain rfl λK hK=> ?_;(first|go_big_move|go_simp);refine hK _ _ ?_;clear hK K;(try simp only[nr])))
      (iterate 4 (refine Lst.want (by kernel_rfl) ?_;refine Lst.plain rfl λK hK=> ?_;(first|go_big_move|go_simp);refine hK _ _ ?_;clear hK K;(try simp only[nr])));(iterate 4 (refine Lst.skip (by kernel_rfl) (by kernel_rfl) ?_));refine Lst.want (by kernel_rfl) ?_;refine Lst.plain rfl λK hK=> ?_;(first|go_big_move|go_simp);refine hK _ _ ?_;clear hK K;(try simp only[nr]);(iterate 2 (refine Lst.plain rfl λK hK=> ?_;(first|go_big_move|go_simp);refine hK _ _ ?_;clear hK K;(try simp only[nr])))
      (iterate 9 (refine Lst.want (by kernel_rfl) ?_;refine Lst.plain rfl λK hK=> ?_;(first|go_big_move|go_simp);refine hK _ _ ?_;clear hK K;(try simp only[nr])));(iterate 2 (refine Lst.plain rfl λK hK=> ?_;(first|go_big_move|go_simp);refine hK _ _ ?_;clear hK K;(try simp only[nr])))
      (iterate 3 ((iterate 4 (refine Lst.want (by kernel_rfl) ?_;refine Lst.plain rfl λK hK=> ?_;(first|go_big_move|go_simp);refine hK _ _ ?_;clear hK K;(try simp only[nr])));(iterate 4 (refine Lst.skip (by kernel_rfl) (by kernel_rfl) ?_));refine Lst.want (by kernel_rfl) ?_;refine Lst.plain rfl λK hK=> ?_;(first|go_big_move|go_simp);refine hK _ _ ?_;clear hK K;(try simp only[nr]);(iterate 2 (refine Lst.plain rfl λK hK=> ?_;(first|go_big_move|go_simp);refine hK _ _ ?_;clear hK K;(try simp only[nr])))))
      refine Lst.nil ?_;go_wp2;go_ret;exact⟨by rw[HR.out];rfl,zh.out⟩
    ·rw[h]at HE;(have k1:(f.cmp==(1:Int))=false:=by simp[h]);(have k2:(f.cmp==(2:Int))=false:=by simp[h]);(have k3:(f.cmp==(3:Int))=false:=by simp[h]);(have k4:(f.cmp==(4:Int))=true:=by simp[h]);(have k5:(f.cmp==(5:Int))=false:=by simp[h]);(have k6:(f.cmp==(6:Int))=false:=by simp[h]);clear h hc1 hc6;by_cases h:v0≤f.num
     ·(have e:decide (v0≤f.num)=true:=by simpa using h);have HR:=hid (HE.out.trans (show zBa v0 4 f.num=true from by unfold zBa;simp;omega));clear h HE;simp only[List.append_eq,List.cons_append,List.nil_append];refine wp_region_lit ?_;refine Lst.out ?_
      (iterate 4 (refine Lst.plain rfl λK hK=> ?_;(first|go_big_move|go_simp);refine hK _ _ ?_;clear hK K;(try simp only[nr])));(iterate 4 (refine Lst.skip (by kernel_rfl) (by kernel_rfl) ?_));(iterate 2 (refine Lst.plain rfl λK hK=> ?_;(first|go_big_move|go_simp);refine hK _ _ ?_;clear hK K;(try simp only[nr])))
      (iterate 2 ((iterate 4 (refine Lst.want (by kernel_rfl) ?_;refine Lst.plain rfl λK hK=> ?_;(first|go_big_move|go_simp);refine hK _ _ ?_;clear hK K;(try simp only[nr])));(iterate 4 (refine Lst.skip (by kernel_rfl) (by kernel_rfl) ?_));refine Lst.want (by kernel_rfl) ?_;refine Lst.plain rfl λK hK=> ?_;(first|go_big_move|go_simp);refine hK _ _ ?_;clear hK K;(try simp only[nr]);(iterate 2 (refine Lst.plain rfl λK hK=> ?_;(first|go_big_move|go_simp);refine hK _ _ ?_;clear hK K;(try simp only[nr])))))
      (iterate 9 (refine Lst.want (by kernel_rfl) ?_;refine Lst.plain rfl λK hK=> ?_;(first|go_big_move|go_simp);refine hK _ _ ?_;clear hK K;(try simp only[nr])));(iterate 2 (refine Lst.plain rfl λK hK=> ?_;(first|go_big_move|go_simp);refine hK _ _ ?_;clear hK K;(try simp only[nr])))
      (iterate 2 ((iterate 9 (refine Lst.skip (by kernel_rfl) (by kernel_rfl) ?_));(iterate 2 (refine Lst.plain rfl λK hK=> ?_;(first|go_big_move|go_simp);refine hK _ _ ?_;clear hK K;(try simp only[nr])))))
      refine Lst.nil ?_;go_wp2;go_ret;exact⟨by rw[HR.out];rfl,zh.out⟩
     ·(have e:decide (v0≤f.num)=false:=by simpa using h);have HR:=hid (HE.out.trans (show zBa v0 4 f.num=false from by unfold zBa;simp;omega));clear h HE;simp only[List.append_eq,List.cons_append,List.nil_append];refine wp_region_lit ?_;refine Lst.out ?_
      (iterate 4 (refine Lst.plain rfl λK hK=> ?_;(first|go_big_move|go_simp);refine hK _ _ ?_;clear hK K;(try simp only[nr])));(iterate 4 (refine Lst.skip (by kernel_rfl) (by kernel_rfl) ?_));(iterate 2 (refine Lst.plain rfl λK hK=> ?_;(first|go_big_move|go_simp);refine hK _ _ ?_;clear hK K;(try simp only[nr])))
      (iterate 2 ((iterate 4 (refine Lst.want (by kernel_rfl) ?_;refine Lst.plain rfl λK hK=> ?_;(first|go_big_move|go_simp);refine hK _ _ ?_;clear hK K;(try simp only[nr])));(iterate 4 (refine Lst.skip (by kernel_rfl) (by kernel_rfl) ?_));refine Lst.want (by kernel_rfl) ?_;refine Lst.plain rfl λK hK=> ?_;(first|go_big_move|go_simp);refine hK _ _ ?_;clear hK K;(try simp only[nr]);(iterate 2 (refine Lst.plain rfl λK hK=> ?_;(first|go_big_move|go_simp);refine hK _ _ ?_;clear hK K;(try simp only[nr])))))
      (iterate 9 (refine Lst.want (by kernel_rfl) ?_;refine Lst.plain rfl λK hK=> ?_;(first|go_big_move|go_simp);refine hK _ _ ?_;clear hK K;(try simp only[nr])));(iterate 2 (refine Lst.plain rfl λK hK=> ?_;(first|go_big_move|go_simp);refine hK _ _ ?_;clear hK K;(try simp only[nr])))
      (iterate 2 ((iterate 4 (refine Lst.want (by kernel_rfl) ?_;refine Lst.plain rfl λK hK=> ?_;(first|go_big_move|go_simp);refine hK _ _ ?_;clear hK K;(try simp only[nr])));(iterate 4 (refine Lst.skip (by kernel_rfl) (by kernel_rfl) ?_));refine Lst.want (by kernel_rfl) ?_;refine Lst.plain rfl λK hK=> ?_;(first|go_big_move|go_simp);refine hK _ _ ?_;clear hK K;(try simp only[nr]);(iterate 2 (refine Lst.plain rfl λK hK=> ?_;(first|go_big_move|go_simp);refine hK _ _ ?_;clear hK K;(try simp only[nr])))))
      refine Lst.nil ?_;go_wp2;go_ret;exact⟨by rw[HR.out];rfl,zh.out⟩
    ·rw[h]at HE;(have k1:(f.cmp==(1:Int))=false:=by simp[h]);(have k2:(f.cmp==(2:Int))=false:=by simp[h]);(have k3:(f.cmp==(3:Int))=false:=by simp[h]);(have k4:(f.cmp==(4:Int))=false:=by simp[h]);(have k5:(f.cmp==(5:Int))=true:=by simp[h]);(have k6:(f.cmp==(6:Int))=false:=by simp[h]);clear h hc1 hc6;by_cases h:f.num<v0
     ·(have e:decide (f.num<v0)=true:=by simpa using h);have HR:=hid (HE.out.trans (show zBa v0 5 f.num=true from by unfold zBa;simp;omega));clear h HE;simp only[List.append_eq,List.cons_append,List.nil_append];refine wp_region_lit ?_;refine Lst.out ?_
      (iterate 4 (refine Lst.plain rfl λK hK=> ?_;(first|go_big_move|go_simp);refine hK _ _ ?_;clear hK K;(try simp only[nr])));(iterate 4 (refine Lst.skip (by kernel_rfl) (by kernel_rfl) ?_));(iterate 2 (refine Lst.plain rfl λK hK=> ?_;(first|go_big_move|go_simp);refine hK _ _ ?_;clear hK K;(try simp only[nr])))
      (iterate 3 ((iterate 4 (refine Lst.want (by kernel_rfl) ?_;refine Lst.plain rfl λK hK=> ?_;(first|go_big_move|go_simp);refine hK _ _ ?_;clear hK K;(try simp only[nr])));(iterate 4 (refine Lst.skip (by kernel_rfl) (by kernel_rfl) ?_));refine Lst.want (by kernel_rfl) ?_;refine Lst.plain rfl λK hK=> ?_;(first|go_big_move|go_simp);refine hK _ _ ?_;clear hK K;(try simp only[nr]);(iterate 2 (refine Lst.plain rfl λK hK=> ?_;(first|go_big_move|go_simp);refine hK _ _ ?_;clear hK K;(try simp only[nr])))))
      (iterate 9 (refine Lst.want (by kernel_rfl) ?_;refine Lst.plain rfl λK hK=> ?_;(first|go_big_move|go_simp);refine hK _ _ ?_;clear hK K;(try simp only[nr])));(iterate 2 (refine Lst.plain rfl λK hK=> ?_;(first|go_big_move|go_simp);refine hK _ _ ?_;clear hK K;(try simp only[nr])))
      (iterate 9 (refine Lst.skip (by kernel_rfl) (by kernel_rfl) ?_));(iterate 2 (refine Lst.plain rfl λK hK=> ?_;(first|go_big_move|go_simp);refine hK _ _ ?_;clear hK K;(try simp only[nr])))
      refine Lst.nil ?_;go_wp2;go_ret;exact⟨by rw[HR.out];rfl,zh.out⟩
     ·(have e:decide (f.num<v0)=false:=by simpa using h);have HR:=hid (HE.out.trans (show zBa v0 5 f.num=false from by unfold zBa;simp;omega));clear h HE;simp only[List.append_eq,List.cons_append,List.nil_append];refine wp_region_lit ?_;refine Lst.out ?_
      (iterate 4 (refine Lst.plain rfl λK hK=> ?_;(first|go_big_move|go_simp);refine hK _ _ ?_;clear hK K;(try simp only[nr])));(iterate 4 (refine Lst.skip (by kernel_rfl) (by kernel_rfl) ?_));(iterate 2 (refine Lst.plain rfl λK hK=> ?_;(first|go_big_move|go_simp);refine hK _ _ ?_;clear hK K;(try simp only[nr])))
      (iterate 3 ((iterate 4 (refine Lst.want (by kernel_rfl) ?_;refine Lst.plain rfl λK hK=> ?_;(first|go_big_move|go_simp);refine hK _ _ ?_;clear hK K;(try simp only[nr])));(iterate 4 (refine Lst.skip (by kernel_rfl) (by kernel_rfl) ?_));refine Lst.want (by kernel_rfl) ?_;refine Lst.plain rfl λK hK=> ?_;(first|go_big_move|go_simp);refine hK _ _ ?_;clear hK K;(try simp only[nr]);(iterate 2 (refine Lst.plain rfl λK hK=> ?_;(first|go_big_move|go_simp);refine hK _ _ ?_;clear hK K;(try simp only[nr])))))
      (iterate 9 (refine Lst.want (by kernel_rfl) ?_;refine Lst.plain rfl λK hK=> ?_;(first|go_big_move|go_simp);refine hK _ _ ?_;clear hK K;(try simp only[nr])));(iterate 2 (refine Lst.plain rfl λK hK=> ?_;(first|go_big_move|go_simp);refine hK _ _ ?_;clear hK K;(try simp only[nr])))
      (iterate 4 (refine Lst.want (by kernel_rfl) ?_;refine Lst.plain rfl λK hK=> ?_;(first|go_big_move|go_simp);refine hK _ _ ?_;clear hK K;(try simp only[nr])));(iterate 4 (refine Lst.skip (by kernel_rfl) (by kernel_rfl) ?_));refine Lst.want (by kernel_rfl) ?_;refine Lst.plain rfl λK hK=> ?_;(first|go_big_move|go_simp);refine hK _ _ ?_;clear hK K;(try simp only[nr]);(iterate 2 (refine Lst.plain rfl λK hK=> ?_;(first|go_big_move|go_simp);refine hK _ _ ?_;clear hK K;(try simp only[nr])))
      refine Lst.nil ?_;go_wp2;go_ret;exact⟨by rw[HR.out];rfl,zh.out⟩
    ·rw[h]at HE;(have k1:(f.cmp==(1:Int))=false:=by simp[h]);(have k2:(f.cmp==(2:Int))=false:=by simp[h]);(have k3:(f.cmp==(3:Int))=false:=by simp[h]);(have k4:(f.cmp==(4:Int))=false:=by simp[h]);(have k5:(f.cmp==(5:Int))=false:=by simp[h]);(have k6:(f.cmp==(6:Int))=true:=by simp[h]);clear h hc1 hc6;by_cases h:f.num≤v0
     ·(have e:decide (f.num≤v0)=true:=by simpa using h);have HR:=hid (HE.out.trans (show zBa v0 6 f.num=true from by unfold zBa;simp;omega));clear h HE;simp only[List.append_eq,List.cons_append,List.nil_append];refine wp_region_lit ?_;refine Lst.out ?_
      (iterate 4 (refine Lst.plain rfl λK hK=> ?_;(first|go_big_move|go_simp);refine hK _ _ ?_;clear hK K;(try simp only[nr])));(iterate 4 (refine Lst.skip (by kernel_rfl) (by kernel_rfl) ?_));(iterate 2 (refine Lst.plain rfl λK hK=> ?_;(first|go_big_move|go_simp);refine hK _ _ ?_;clear hK K;(try simp only[nr])))
      (iterate 4 ((iterate 4 (refine Lst.want (by kernel_rfl) ?_;refine Lst.plain rfl λK hK=> ?_;(first|go_big_move|go_simp);refine hK _ _ ?_;clear hK K;(try simp only[nr])));(iterate 4 (refine Lst.skip (by kernel_rfl) (by kernel_rfl) ?_));refine Lst.want (by kernel_rfl) ?_;refine Lst.plain rfl λK hK=> ?_;(first|go_big_move|go_simp);refine hK _ _ ?_;clear hK K;(try simp only[nr]);(iterate 2 (refine Lst.plain rfl λK hK=> ?_;(first|go_big_move|go_simp);refine hK _ _ ?_;clear hK K;(try simp only[nr])))))
      (iterate 9 (refine Lst.want (by kernel_rfl) ?_;refine Lst.plain rfl λK hK=> ?_;(first|go_big_move|go_simp);refine hK _ _ ?_;clear hK K;(try simp only[nr])));(iterate 2 (refine Lst.plain rfl λK hK=> ?_;(first|go_big_move|go_simp);refine hK _ _ ?_;clear hK K;(try simp only[nr])))
      refine Lst.nil ?_;go_wp2;go_ret;exact⟨by rw[HR.out];rfl,zh.out⟩
     ·(have e:decide (f.num≤v0)=false:=by simpa using h);have HR:=hid (HE.out.trans (show zBa v0 6 f.num=false from by unfold zBa;simp;omega));clear h HE;simp only[List.append_eq,List.cons_append,List.nil_append];refine wp_region_lit ?_;refine Lst.out ?_
      (iterate 4 (refine Lst.plain rfl λK hK=> ?_;(first|go_big_move|go_simp);refine hK _ _ ?_;clear hK K;(try simp only[nr])));(iterate 4 (refine Lst.skip (by kernel_rfl) (by kernel_rfl) ?_));(iterate 2 (refine Lst.plain rfl λK hK=> ?_;(first|go_big_move|go_simp);refine hK _ _ ?_;clear hK K;(try simp only[nr])))
      (iterate 4 ((iterate 4 (refine Lst.want (by kernel_rfl) ?_;refine Lst.plain rfl λK hK=> ?_;(first|go_big_move|go_simp);refine hK _ _ ?_;clear hK K;(try simp only[nr])));(iterate 4 (refine Lst.skip (by kernel_rfl) (by kernel_rfl) ?_));refine Lst.want (by kernel_rfl) ?_;refine Lst.plain rfl λK hK=> ?_;(first|go_big_move|go_simp);refine hK _ _ ?_;clear hK K;(try simp only[nr]);(iterate 2 (refine Lst.plain rfl λK hK=> ?_;(first|go_big_move|go_simp);refine hK _ _ ?_;clear hK K;(try simp only[nr])))))
      (iterate 9 (refine Lst.want (by kernel_rfl) ?_;refine Lst.plain rfl λK hK=> ?_;(first|go_big_move|go_simp);refine hK _ _ ?_;clear hK K;(try simp only[nr])));(iterate 2 (refine Lst.plain rfl λK hK=> ?_;(first|go_big_move|go_simp);refine hK _ _ ?_;clear hK K;(try simp only[nr])))
      refine Lst.nil ?_;go_wp2;go_ret;exact⟨by rw[HR.out];rfl,zh.out⟩
 ·have e1:(f.op==(1:Int))=true:=by simp[h]
  have e3:(f.op==(3:Int))=false:=by simp[h]
  have e4:(f.op==(4:Int))=false:=by simp[h]
  have e5:(f.op==(5:Int))=false:=by simp[h]
  have e6:(f.op==(6:Int))=false:=by simp[h]
  have HR:=hid (zE2 (ds:=ds) (c:=c) h);clear h HEV h3i;go_wp2;go_ret;exact⟨by rw[HR.out];rfl,zZ.out.2.2⟩
 ·have e1:(f.op==(1:Int))=false:=by simp[h]
  have e3:(f.op==(3:Int))=false:=by simp[h]
  have e4:(f.op==(4:Int))=false:=by simp[h]
  have e5:(f.op==(5:Int))=false:=by simp[h]
  have e6:(f.op==(6:Int))=false:=by simp[h]
  have HR:=hid (zE3 (ds:=ds) (c:=c) h);clear h HEV h3i;go_wp2;go_ret;exact⟨by rw[HR.out];rfl,zZ.out.2.2⟩
 ·have HE:=hid (HEV.out.trans (show _= !zBb ds c f.kids from by rw[if_neg (by omega),if_pos h]));obtain⟨g0,hg0⟩:=List.length_eq_one_iff.1 hk1;have HE2:=hid (HE.out.trans (show _= !evF ds c g0 from by rw[hg0,zBb,zBb,Bool.or_false]));have hlt:0<f.kids.length:=by omega
  have e1:(f.op==(1:Int))=false:=by simp[h]
  have e3:(f.op==(3:Int))=false:=by simp[h]
  have e4:(f.op==(4:Int))=true:=by simp[h]
  have e5:(f.op==(5:Int))=false:=by simp[h]
  have e6:(f.op==(6:Int))=false:=by simp[h]
  have HG0:=hid hg0;clear h h3i HEV HE hk1 hg0;go_upto_region 13 with fail
  generalize ((w.alloc (.cells #[.int .i64 f.op,.string f.name,.int .i64 f.cmp,.int .i64 f.num,.slice A f.kids.length cap] 24)).alloc (.cells #[.slice D ds.length dcap] 27))=W0 at*;have b4:=zZ.out.1.at4;have bl:=zZ.out.1.lt;have d0:=zZ.out.2.1.at0;have dl:=zZ.out.2.1.lt;obtain⟨gb,goff,gcs,rfl,hz,hgcs,hfk⟩:=HS.out.at_ hlt;have hkz:zA Z w W0:= .of_below zZ.out.2.2;have hfk':=FmR.keep hkz _ _ hfk;obtain⟨A',cap',rfl⟩:=FmR.form hfk;have hle:=zAY hlt;obtain⟨c0,c1,c2,c3,c4⟩:=zp (λj u hu=>hkz.cell (p:=⟨gb,goff+0*5+j,none⟩) hz (hgcs j u hu));have gl:=lt_of_cell c0;have hok:=zGN.1 HOK.out _ (List.getElem_mem hlt);have zN:=hid (λW(hW:Below W0.heap.size W0 W)=>IH.out f.kids[0] (by have:=HM.out;omega) (by have:=HM.out;omega) Z Zd Zc _ _ _ W (FmR.keep (.of_below hW) _ _ hfk') (HDD.out.keep (.of_below (zZ.out.2.2.trans (hW.mono zZ.out.2.2.size)))) (HC.out.keep (.of_below (zZ.out.2.2.trans (hW.mono zZ.out.2.2.size)))) hok);clear hgcs hfk hfk' hkz hle hok;have hg0:=HG0.out;simp only[hg0,List.getElem_cons_zero]at zN c0 c1 c2 c3 c4;rw[Nat.zero_mul,Nat.add_zero]at c0 c1 c2 c3 c4;have hk1i:(0:Int)<(f.kids.length:Int):=by omega
  have hk1n:0<f.kids.length:=hlt;clear hlt hg0;go_wp2
  go_region_held3(λw'=>w'.cell? ⟨w.heap.size,4,none⟩=some (.slice (some ⟨gb,goff,none⟩) f.kids.length cap)∧w'.cell? ⟨w.heap.size+1,0,none⟩=some (.slice D ds.length dcap)∧w'.cell? ⟨gb,goff,none⟩=some (.int .i64 g0.op)∧w'.cell? ⟨gb,goff+1,none⟩=some (.string g0.name)∧w'.cell? ⟨gb,goff+2,none⟩=some (.int .i64 g0.cmp)∧w'.cell? ⟨gb,goff+3,none⟩=some (.int .i64 g0.num)∧w'.cell? ⟨gb,goff+4,none⟩=some (.slice A' g0.kids.length cap'))
   (first|exact⟨p0,p1,p2,p3,p4,p5,p6⟩|(refine⟨?_,?_,?_,?_,?_,?_,?_⟩<;>go_keep))
   (first
    |(go_at_call 91;refine(zN.out _ (Below.refl _ _).drew).mono ?_;rintro e w1 ⟨rfl,hb1⟩;have hb1:Below W0.heap.size W0 w1:=(Below.refl _ _).drew.trans hb1;have p0:=brd hb1 b4 bl;have p1:=brd hb1 d0 dl;have p2:=brd hb1 c0 gl;have p3:=brd hb1 c1 gl;have p4:=brd hb1 c2 gl;have p5:=brd hb1 c3 gl;have p6:=brd hb1 c4 gl))
  have hbw:=zZ.out.2.2.trans (hb1.mono zZ.out.2.2.size);clear p0 p1 p2 p3 p4 p5 p6 hb1;go_wp2;go_ret;exact⟨by rw[HE2.out];rfl,hbw⟩
 ·have HE:=hid (HEV.out.trans (show _=zCK ds c f.kids from by rw[if_neg (by omega),if_neg (by omega),if_pos h]));have e1:(f.op==(1:Int))=false:=by simp[h]
  have e3:(f.op==(3:Int))=false:=by simp[h]
  have e4:(f.op==(4:Int))=false:=by simp[h]
  have e5:(f.op==(5:Int))=true:=by simp[h]
  have e6:(f.op==(6:Int))=false:=by simp[h]
  clear h h3i HEV hk2;go_wp2;clear e1 e3 e4 e5 e6;go_loopw[9] (λi wr=>∃k:Nat,k≤f.kids.length∧i= .int .i64 k∧Hid (zCK ds c (f.kids.take k)=true)∧Blk wr w.heap.size 24 #[.int .i64 f.op,.string f.name,.int .i64 f.cmp,.int .i64 f.num,.slice A f.kids.length cap]∧Blk wr (w.heap.size+1) 27 #[.slice D ds.length dcap]∧Below w.heap.size w wr) (λi _=>f.kids.length-(intOf i).toNat);case atStart=>exact⟨0,Nat.zero_le _,rfl,hid (by simp[zCK]),zZ.out⟩
  case round=>
   obtain⟨k,hk,rfl,hall,hbx,hbd,hbel⟩:=hrel;have b4:=hbx.at4;have bl:=hbx.lt;have d0:=hbd.at0;have dl:=hbd.lt;have HB:=hid (And.intro hbx (And.intro hbd hbel));by_cases hlt:k<f.kids.length
   ·have HTK:=hid (zM9 ds c f.kids k hlt hall.out);have HST:=hid (zMa ds c f.kids k hlt);obtain⟨gb,goff,gcs,rfl,hz,hgcs,hfk⟩:=HS.out.at_ hlt;have hkz:zA Z w wr:= .of_below hbel;have hfk':=FmR.keep hkz _ _ hfk;obtain⟨A',cap',rfl⟩:=FmR.form hfk;have hle:=zAY hlt;obtain⟨c0,c1,c2,c3,c4⟩:=zp (λj u hu=>hkz.cell (p:=⟨gb,goff+k*5+j,none⟩) hz (hgcs j u hu));have gl:=lt_of_cell c0;have hok:=zGN.1 HOK.out _ (List.getElem_mem hlt);have zN:=hid (λW(hW:Below wr.heap.size wr W)=>IH.out f.kids[k] (by have:=HM.out;omega) (by have:=HM.out;omega) Z Zd Zc _ _ _ W (FmR.keep (.of_below hW) _ _ hfk') (HDD.out.keep (.of_below (hbel.trans (hW.mono hbel.size)))) (HC.out.keep (.of_below (hbel.trans (hW.mono hbel.size)))) hok);clear hgcs hfk hfk' hkz hle hok;(have hk1:((k:Nat):Int)<(f.kids.length:Int):=by omega);(have hk3:(0:Int)≤((k:Nat):Int):=by omega);clear hbx hbd hbel hall;generalize hge:f.kids[k]=g at*;clear hge;generalize evF ds c g=r at*;go_wp2
    go_region_held3(λw'=>w'.cell? ⟨w.heap.size,4,none⟩=some (.slice (some ⟨gb,goff,none⟩) f.kids.length cap)∧w'.cell? ⟨w.heap.size+1,0,none⟩=some (.slice D ds.length dcap)∧w'.cell? ⟨gb,goff+k*5,none⟩=some (.int .i64 g.op)∧w'.cell? ⟨gb,goff+k*5+1,none⟩=some (.string g.name)∧w'.cell? ⟨gb,goff+k*5+2,none⟩=some (.int .i64 g.cmp)∧w'.cell? ⟨gb,goff+k*5+3,none⟩=some (.int .i64 g.num)∧w'.cell? ⟨gb,goff+k*5+4,none⟩=some (.slice A' g.kids.length cap'))
     (first|exact⟨p0,p1,p2,p3,p4,p5,p6⟩|(refine⟨?_,?_,?_,?_,?_,?_,?_⟩<;>go_keep))
     (first
      |(go_at_call 91;refine(zN.out _ (Below.refl _ _).drew).mono ?_;rintro e w1 ⟨rfl,hb1⟩;have hb1:Below wr.heap.size wr w1:=(Below.refl _ _).drew.trans hb1;have p0:=brd hb1 b4 bl;have p1:=brd hb1 d0 dl;have p2:=brd hb1 c0 gl;have p3:=brd hb1 c1 gl;have p4:=brd hb1 c2 gl;have p5:=brd hb1 c3 gl;have p6:=brd hb1 c4 gl))
    have HN:=hid (And.intro (HB.out.1.below hb1 bl) (And.intro (HB.out.2.1.below hb1 dl) (HB.out.2.2.trans (hb1.mono HB.out.2.2.size))));clear p0 p1 p2 p3 p4 p5 p6 hb1;cases hg:r
    ·have HT:=hid (HE.out.trans (HST.out hg));clear hg HTK HST;go_wp2;go_ret;exact⟨by rw[HT.out];rfl,HN.out.2.2⟩
    ·have HT:=hid (HTK.out hg);clear hg HTK HST;go_wp2;go_roundw;(case rel=>exact⟨k+1,by omega,by go_num,HT,HN.out⟩);case measure=>simp[intOf];omega
   ·(obtain rfl:k=f.kids.length:=by omega);have HT:=hid (HE.out.trans (show zCK ds c f.kids=true from by have:=hall.out;rwa[List.take_length]at this));clear hall hbx hbd hbel;go_wp2;go_ret;exact⟨by rw[HT.out];rfl,HB.out.2.2⟩
 ·have HE:=hid (HEV.out.trans (show _=zBb ds c f.kids from by rw[if_neg (by omega),if_neg (by omega),if_neg (by omega),if_pos h]));have e1:(f.op==(1:Int))=false:=by simp[h]
  have e3:(f.op==(3:Int))=false:=by simp[h]
  have e4:(f.op==(4:Int))=false:=by simp[h]
  have e5:(f.op==(5:Int))=false:=by simp[h]
  have e6:(f.op==(6:Int))=true:=by simp[h]
  clear h h3i HEV hk2;go_wp2;clear e1 e3 e4 e5 e6;go_loopw[10] (λi wr=>∃k:Nat,k≤f.kids.length∧i= .int .i64 k∧Hid (zBb ds c (f.kids.take k)=false)∧Blk wr w.heap.size 24 #[.int .i64 f.op,.string f.name,.int .i64 f.cmp,.int .i64 f.num,.slice A f.kids.length cap]∧Blk wr (w.heap.size+1) 27 #[.slice D ds.length dcap]∧Below w.heap.size w wr) (λi _=>f.kids.length-(intOf i).toNat);case atStart=>exact⟨0,Nat.zero_le _,rfl,hid (by simp[zBb]),zZ.out⟩
  case round=>
   obtain⟨k,hk,rfl,hall,hbx,hbd,hbel⟩:=hrel;have b4:=hbx.at4;have bl:=hbx.lt;have d0:=hbd.at0;have dl:=hbd.lt;have HB:=hid (And.intro hbx (And.intro hbd hbel));by_cases hlt:k<f.kids.length
   ·have HTK:=hid (zMb ds c f.kids k hlt hall.out);have HST:=hid (zMc ds c f.kids k hlt);obtain⟨gb,goff,gcs,rfl,hz,hgcs,hfk⟩:=HS.out.at_ hlt;have hkz:zA Z w wr:= .of_below hbel;have hfk':=FmR.keep hkz _ _ hfk;obtain⟨A',cap',rfl⟩:=FmR.form hfk;have hle:=zAY hlt;obtain⟨c0,c1,c2,c3,c4⟩:=zp (λj u hu=>hkz.cell (p:=⟨gb,goff+k*5+j,none⟩) hz (hgcs j u hu));have gl:=lt_of_cell c0;have hok:=zGN.1 HOK.out _ (List.getElem_mem hlt);have zN:=hid (λW(hW:Below wr.heap.size wr W)=>IH.out f.kids[k] (by have:=HM.out;omega) (by have:=HM.out;omega) Z Zd Zc _ _ _ W (FmR.keep (.of_below hW) _ _ hfk') (HDD.out.keep (.of_below (hbel.trans (hW.mono hbel.size)))) (HC.out.keep (.of_below (hbel.trans (hW.mono hbel.size)))) hok);clear hgcs hfk hfk' hkz hle hok;(have hk1:((k:Nat):Int)<(f.kids.length:Int):=by omega);(have hk3:(0:Int)≤((k:Nat):Int):=by omega);clear hbx hbd hbel hall;generalize hge:f.kids[k]=g at*;clear hge;generalize evF ds c g=r at*;go_wp2
    go_region_held3(λw'=>w'.cell? ⟨w.heap.size,4,none⟩=some (.slice (some ⟨gb,goff,none⟩) f.kids.length cap)∧w'.cell? ⟨w.heap.size+1,0,none⟩=some (.slice D ds.length dcap)∧w'.cell? ⟨gb,goff+k*5,none⟩=some (.int .i64 g.op)∧w'.cell? ⟨gb,goff+k*5+1,none⟩=some (.string g.name)∧w'.cell? ⟨gb,goff+k*5+2,none⟩=some (.int .i64 g.cmp)∧w'.cell? ⟨gb,goff+k*5+3,none⟩=some (.int .i64 g.num)∧w'.cell? ⟨gb,goff+k*5+4,none⟩=some (.slice A' g.kids.length cap'))
     (first|exact⟨p0,p1,p2,p3,p4,p5,p6⟩|(refine⟨?_,?_,?_,?_,?_,?_,?_⟩<;>go_keep))
     (first
      |(go_at_call 91;refine(zN.out _ (Below.refl _ _).drew).mono ?_;rintro e w1 ⟨rfl,hb1⟩;have hb1:Below wr.heap.size wr w1:=(Below.refl _ _).drew.trans hb1;have p0:=brd hb1 b4 bl;have p1:=brd hb1 d0 dl;have p2:=brd hb1 c0 gl;have p3:=brd hb1 c1 gl;have p4:=brd hb1 c2 gl;have p5:=brd hb1 c3 gl;have p6:=brd hb1 c4 gl))
    have HN:=hid (And.intro (HB.out.1.below hb1 bl) (And.intro (HB.out.2.1.below hb1 dl) (HB.out.2.2.trans (hb1.mono HB.out.2.2.size))));clear p0 p1 p2 p3 p4 p5 p6 hb1;cases hg:r
    ·have HT:=hid (HTK.out hg);clear hg HTK HST;go_wp2;go_roundw;(case rel=>exact⟨k+1,by omega,by go_num,HT,HN.out⟩);case measure=>simp[intOf];omega
    ·have HT:=hid (HE.out.trans (HST.out hg));clear hg HTK HST;go_wp2;go_ret;exact⟨by rw[HT.out];rfl,HN.out.2.2⟩
   ·(obtain rfl:k=f.kids.length:=by omega);have HT:=hid (HE.out.trans (show zBb ds c f.kids=false from by have:=hall.out;rwa[List.take_length]at this));clear hall hbx hbd hbel;go_wp2;go_ret;exact⟨by rw[HT.out];rfl,HB.out.2.2⟩
end Go.Proofs.YtonmdbdopchkaaaGreatDoor
