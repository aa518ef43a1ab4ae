/- Texts RC RD RE RF. -/
import Derived.Test.YtimmfbnjndndlaaGreatDoorM43
set_option linter.all false
namespace Go.Proofs.YtimmfbnjndndlaaGreatDoor
open Go.RowKit
set_option maxHeartbeats 8000000
set_option maxRecDepth 100000
section
open Go.Shelf
def totFn(W:World):Value:= .func (.func 63) #[] #[.pointer (some ⟨W.heap.size+1+1+1+1,0,none⟩),.pointer (some ⟨W.heap.size,0,none⟩),.pointer (some ⟨W.heap.size+1,0,none⟩),.pointer (some ⟨W.heap.size+1+1+1+1+1,0,none⟩)]
def totW(W:World)(B FN:Nat):World:=
 (((((W.alloc (.cells #[.pointer (some ⟨B,0,none⟩)] 76)).alloc (.cells #[.func (.func FN) #[] #[]] 82)).alloc (.cells #[.bool false,.string ⟨#[]⟩,.string ⟨#[]⟩,.int .i64 0] 80)).alloc (.map #[] 0)).alloc (.cells #[.map (some (W.heap.size+1+1+1))] 116)).alloc
  (.cells #[totFn W] 117)
theorem tot_one_new(w:World)(v:Value)(t:TypeId){n:Nat}(h:w.heap.size=n):One (w.alloc (.cells #[v] t)) n v:=h▸One.new w v t
theorem tot_start{Z:Zone}{w W:World}{B MM:Nat}{vd vl vr:Value}{l:List ProdD}{base:ByteArray}{day:Int}{kvp:List (ByteArray × Value)}(T:ByteArray->Rt × Int)(FN:Nat)(hg:GdsR Z w W B MM vd vl vr l base day kvp):
  TotC Z w (totW W B FN) B MM vd vl vr l base day kvp T FN (W.heap.size+1+1+1+1) W.heap.size (W.heap.size+1) (W.heap.size+1+1+1+1+1) (W.heap.size+1+1+1) []∧Below W.heap.size W (totW W B FN)∧
  Blk (totW W B FN) (W.heap.size+1+1) 80 #[.bool false,.string ⟨#[]⟩,.string ⟨#[]⟩,.int .i64 0]:=by
 have hb:Below W.heap.size W (totW W B FN):=((((((Below.refl _ _).alloc (Nat.le_refl _) _).alloc (by simp) _).alloc (by simp;omega) _).alloc (by simp;omega) _).alloc (by simp;omega) _).alloc (by simp;omega) _;have h1:=hg.b.lt;have h2:=hg.m.lt;refine⟨⟨?_,?_,?_,?_,hg.below hb,?_,λx v h=>by simp[kvGet]at h,⟨by omega,by omega,by omega,by omega,by omega,by omega⟩,by have:=hg.be.size;omega⟩,hb,?_⟩
 ·exact(tot_one_new _ _ _ (by simp)).alloc _
 ·exact(((((One.new W _ _).alloc _).alloc _).alloc _).alloc _).alloc _
 ·exact((((tot_one_new _ _ _ (by simp)).alloc _).alloc _).alloc _).alloc _
 ·exact tot_one_new _ _ _ (by simp)
 ·have:=MapIs.made (((W.alloc (.cells #[.pointer (some ⟨B,0,none⟩)] 76)).alloc (.cells #[.func (.func FN) #[] #[]] 82)).alloc (.cells #[.bool false,.string ⟨#[]⟩,.string ⟨#[]⟩,.int .i64 0] 80)) encS;simp only[World.size_alloc]at this;have h2:MapIs encS (totW W B FN) (W.heap.size+1+1+1) []:=this.of_block ((Below.heap_alloc _ _ _ (by simp;try omega)).trans (Below.heap_alloc _ _ _ (by simp;try omega)));exact h2
 ·have:=(((Blk.new ((W.alloc (.cells #[.pointer (some ⟨B,0,none⟩)] 76)).alloc (.cells #[.func (.func FN) #[] #[]] 82)) 80 #[.bool false,.string ⟨#[]⟩,.string ⟨#[]⟩,.int .i64 0]).alloc (.map #[] 0)).alloc (.cells #[.map (some (W.heap.size+1+1+1))] 116)).alloc (.cells #[totFn W] 117);simp only[World.size_alloc]at this;exact this
theorem total_any(Z:Zone)(w:World)(B MM:Nat)(vd vl vr:Value)(l:List ProdD)(base:ByteArray)(day:Int)(kvp:List (ByteArray × Value))(hkv:ProdKv Z w kvp l)(hz:∀b,Z b->b<w.heap.size)(htab:TabB w.heap.size w)(hcnt:CntOk l)
  (o:List ByteArray)(ho:OrdOk l o)(of:ProdD->(Rt × Int) × Bool)(FN:Nat)(eF:∀args w,(callFunc FN args).run Tryz.prog w= .ok (.enter FN args) w)(hres:∀p∈l,ResOk (of p).1)
  (HOF:∀U,GdsR Z w U B MM vd vl vr l base day kvp->∀p∈l,∀cs,ProdR Z w cs p->Calls Tryz.prog FN #[.pointer (some ⟨B,0,none⟩),.agg cs.toArray] U λe U'=>e= .returned (.tuple #[resV (of p).1,.bool (of p).2])∧Below U.heap.size U U')
  (id:ByteArray)(W:World)(hin:id∈idsP l)(hg:GdsR Z w W B MM vd vl vr l base day kvp):
  Calls Tryz.prog 29 #[.pointer (some ⟨B,0,none⟩),.string id,.func (.func FN) #[] #[]] W λe W'=>e= .returned (resV (totS l of (l.length+1) id))∧Below W.heap.size W W':=by
 have hmm:= @run_makeMap Tryz.prog;have eg:=Tryz.egTotal1;have HT1:=hid (λU K G F V M kv hC=>total1_any Z w B MM vd vl vr l base day kvp hkv hz htab hcnt o ho of FN K G F V M eF hres HOF (rk o id+1) id U kv hin (Nat.lt_succ_self _) hC);have HG:=hid hg;clear hkv hz htab hcnt ho hres HOF hin hg;generalize totS l of (l.length+1)=T at*;go_enter Tryz.func29,Tryz.ntmps29
 go_upto_region 4 with fail
 obtain⟨hC,hb,hr⟩:=tot_start T FN HG.out;have hW:totW W B FN=totW W B FN:=rfl
 conv at hW=>lhs;unfold totW totFn
 rw[hW];clear hW;generalize totW W B FN=U at*;have v1:=hC.v.cell;have vl':=hC.v.lt;have HC:=hid hC;have HR:=hid (And.intro hb hr);clear hC hb hr;go_wp2_with fail
 refine(HT1.out _ _ _ _ _ _ _ HC.out).mono ?_;obtain⟨a,b,c,hx,-⟩:=resV_form (T id);rw[hx];rintro e U2 ⟨rfl,hk,hc⟩;have hr:=HR.out.2.keep hk (by show W.heap.size+1+1≠W.heap.size+1+1+1;omega);have hb:Below W.heap.size W U2:=below_keeps_ne HR.out.1 hk (by omega) HR.out.1.size;have HR2:=hid (And.intro hb hr);have r0:=hr.at0;have r1:=hr.at1;have r2:=hr.at2;have r3:=hr.at3;have g0:=hr.frozen 0;have g1:=hr.frozen 1;have g2:=hr.frozen 2;have g3:=hr.frozen 3;have gl:=hr.lt;clear hr hb hk hc v1 vl';go_wp2_with fail
 have HO:=(((HR2.out.2.set_ 0 (.bool a)).set_ 1 (.string b)).set_ 2 (.string c)).set_ 3 (.int .i64 (T id).2);have hl:W.heap.size≤W.heap.size+1+1:=by omega
 have HB:=(((HR2.out.1.setCell (p:=⟨W.heap.size+1+1,0,none⟩) hl (.bool a)).setCell (p:=⟨W.heap.size+1+1,1,none⟩) hl (.string b)).setCell (p:=⟨W.heap.size+1+1,2,none⟩) hl (.string c)).setCell (p:=⟨W.heap.size+1+1,3,none⟩) hl (.int .i64 (T id).2);have r0:=HO.at0;have r1:=HO.at1;have r2:=HO.at2;have r3:=HO.at3;exact bodyPost_ret (v:= .agg #[.bool a,.string b,.string c,.int .i64 (T id).2]) (by simp[results,Tryz.results29,go_sem,r0,r1,r2,r3]) rfl ⟨by rw[hx],HB⟩
end
section
open Go.Shelf
theorem classT_line{t:TarD}{c:List Int}(h:(classT t c).2=0):lineOf t c<t.lines.length∧(classT t c).1=(lineOf t c:Nat):=by
 unfold classT at h⊢;split at h
 ·cases h
 ·rename_i h1;rw[if_neg h1];split at h
  ·rename_i h2;rw[if_pos h2];exact⟨h2,rfl⟩
  ·cases h
theorem Tryz.egOwn:∀args w,(callFunc 30 args).run Tryz.prog w= .ok (.enter 30 args) w:=enters_of Tryz.func30 (by kernel_rfl) rfl
theorem Tryz.egNothing:∀args w,(callFunc 31 args).run Tryz.prog w= .ok (.enter 31 args) w:=enters_of Tryz.func31 (by kernel_rfl) rfl
structure GdsIn (Z:Zone) (w:World) (vd vl vr:Value) (t:TarD) (l:List ProdD) (r:List RateD) (base:ByteArray) (kv:List (ByteArray × Value)):Prop where
 kv:ProdKv Z w kv l
 tar:TarR Z w vd vl t
 f:t.fine
 r:Rates Z w vr r
 z:∀b,Z b->b<w.heap.size
 bs:base.size≤140737488355328
 tab:TabB w.heap.size w
 ck:checkP t l=0
theorem convR_res(r:List RateD)(base cur:ByteArray)(u:Int)(tc:ByteArray)(day:Int):ResOk (convR r base cur u tc day):=by
 intro h;unfold convR at h⊢;split at h
 ·cases h
 rename_i h1;rw[if_neg h1];split at h
 ·contradiction
 rename_i h2;rw[if_neg h2];split at h
 ·contradiction
 rename_i h3;rw[if_neg h3];have h1:amtOk cur u=true:=by simpa using h1
 unfold amtOk at h1;simp only[Bool.and_eq_true,decide_eq_true_eq]at h1;have p1:=findR_pos (by simpa using h2);have p2:=findR_pos (by simpa using h3);exact(cvOk (by omega) ⟨p1.1,p1.2.1⟩ p1.2.2 p2.2.2 ⟨p2.1,p2.2.1⟩).r4
theorem own_res{l:List ProdD}{r:List RateD}{base:ByteArray}{day:Int}:∀p∈l,ResOk (ownP r base day p).1:=λp _=>convR_res r base p.cur p.units base day
theorem GdsIn.cnt{Z:Zone}{w:World}{vd vl vr:Value}{t:TarD}{l:List ProdD}{r:List RateD}{base:ByteArray}{kv:List (ByteArray × Value)}(h:GdsIn Z w vd vl vr t l r base kv):CntOk l:=by
 obtain⟨_,_,⟨o,ho⟩,_⟩:=checkP_ok h.ck;intro p hp c hc;have he:=ho.even;rw[List.any_eq_false]at he;have h1:=he p hp;unfold oddP at h1;simp only[Bool.or_eq_true,Bool.not_eq_true',List.any_eq_true,not_or,not_exists,not_and]at h1;have h2:=h1.2 c hc;unfold cntOk at h2;simpa using h2
theorem own_total(Z:Zone)(w:World)(B M:Nat)(vd vl vr:Value)(t:TarD)(l:List ProdD)(r:List RateD)(base:ByteArray)(day:Int)(kv:List (ByteArray × Value))(hI:GdsIn Z w vd vl vr t l r base kv)
  (id:ByteArray)(W:World)(hin:id∈idsP l)(hg:GdsR Z w W B M vd vl vr l base day kv):
  Calls Tryz.prog 29 #[.pointer (some ⟨B,0,none⟩),.string id,.func (.func 30) #[] #[]] W λe W'=>e= .returned (resV (totV l r base day id))∧Below W.heap.size W W':=by
 obtain⟨_,_,⟨o,ho⟩,_⟩:=checkP_ok hI.ck;exact total_any Z w B M vd vl vr l base day kv hI.kv hI.z hI.tab hI.cnt o ho (ownP r base day) 30 Tryz.egOwn own_res (λU hU p _ cs hp=>own_any Z w U B M vd vl vr l r base day kv hU hI.r hI.z hI.bs hI.tab p cs hp) id W hin hg
theorem nothing_any(Z:Zone)(w W:World)(B M:Nat)(vd vl vr:Value)(t:TarD)(l:List ProdD)(r:List RateD)(base:ByteArray)(day:Int)(kv:List (ByteArray × Value))(hI:GdsIn Z w vd vl vr t l r base kv)(hg:GdsR Z w W B M vd vl vr l base day kv)
  (p:ProdD)(hpl:p∈l)(cs:List Value)(hp:ProdR Z w cs p):
  Calls Tryz.prog 31 #[.pointer (some ⟨B,0,none⟩),.agg cs.toArray] W λe W'=>e= .returned (.tuple #[resV (ctlP t l r base day p).1,.bool (ctlP t l r base day p).2])∧Below W.heap.size W W':=by
 obtain⟨_,_,_,hcl⟩:=checkP_ok hI.ck;obtain⟨hlo,hle⟩:=classT_line (hcl p hpl);obtain⟨CA,cc,PA,pc,rfl,hcas,_,hfit⟩:=hp.form2;have HCL:=hid (λU(hU:Below W.heap.size W U)=>classify_any Z Z vd vl (.slice CA p.cas.length cc) t p.cas U (hI.tar.keep (Keeps.of_below (hg.be.trans (hU.mono hg.be.size)))) (hcas.keep (Keeps.of_below (hg.be.trans (hU.mono hg.be.size)))) (λb hb=>Nat.lt_of_lt_of_le (hI.z b hb) (Nat.le_trans hg.be.size hU.size)) (λb hb=>Nat.lt_of_lt_of_le (hI.z b hb) (Nat.le_trans hg.be.size hU.size)) hI.f);rw[hcl p hpl,hle]at HCL;have HTT:=hid (λU(hU:GdsR Z w U B M vd vl vr l base day kv)=>own_total Z w B M vd vl vr t l r base day kv hI p.id U (List.mem_map_of_mem hpl) hU);obtain⟨⟨A2,cap2,hvl,hle2,hc2,hby,hls⟩⟩:=hI.tar.l;obtain⟨A3,cap3,hvd⟩:∃A3 cap3,vd= .slice A3 t.dom.length cap3:=by obtain⟨⟨A3,cap3,e,_⟩,_⟩:=hI.tar.d;exact⟨A3,cap3,e⟩
 subst hvl hvd;obtain⟨lb,loff,lcs,hA2,hlz,hlc,hLR⟩:=hls.at_ hlo;subst hA2;obtain⟨FA,fcap,rfl,-⟩:=hLR.form;have hlz2:=hI.z lb hlz;have HLC:=hid (λU(hU:Below w.heap.size w U)=>cells_below hU hlz2 hlc);have HLI:=hid (show((lineOf t p.cas:Nat):Int)<(t.lines.length:Int)∧(0:Int)≤((lineOf t p.cas:Nat):Int) from⟨by omega,by omega⟩);obtain⟨RR,hRR⟩:∃RR,RR=ctlP t l r base day p:=⟨_,rfl⟩;rw[<-hRR];unfold ctlP ctlLine at hRR;rw[List.getElem?_eq_getElem hlo]at hRR;dsimp only at hRR;have HR:=hid hRR;have HTB:=hid (λU(hU:Below w.heap.size w U)=>((hI.tab.on hU).mono hU.size:TabB U.heap.size U));have HLT:=hid (show lb<w.heap.size from hlz2);have h0:=OwB.new hg CA p.cas.length cc PA p.parts.length pc p.id p.cur p.units;clear hRR hI hg hcl hle hp hcas hfit hpl hle2 hc2 hby hls hlz hlc hLR hlz2;generalize t.lines[lineOf t p.cas]'hlo=ln at*;clear hlo;generalize lineOf t p.cas=lf at*;generalize p.cas.length=cn at*;generalize p.parts.length=pn at*;generalize p.id=pid at*;generalize p.cur=pcur at*;generalize p.units=pu at*;generalize totV l r base day pid=TV at*;generalize t.dom.length=dl at*;generalize t.lines.length=nl at*;go_enter Tryz.func31,Tryz.ntmps31
 go_upto_region 1 with fail
 generalize (W.alloc (.cells #[.string pid,.slice CA cn cc,.string pcur,.int .i64 pu,.slice PA pn pc] 42)).alloc (.cells #[.bool false,.string ⟨#[]⟩,.string ⟨#[]⟩,.int .i64 0] 80)=w0 at*
 have HC:=hid (λV(hV:OwB Z w W V B M (.slice A3 dl cap3) (.slice (some ⟨lb,loff,none⟩) nl cap2) vr l base day kv CA cn cc PA pn pc pid pcur pu)=>(show V.cell? ⟨B,0,none⟩=some (.slice A3 dl cap3)∧V.cell? ⟨B,1,none⟩=some (.slice (some ⟨lb,loff,none⟩) nl cap2)∧V.cell? ⟨W.heap.size,1,none⟩=some (.slice CA cn cc) from
  ⟨hV.g.b.at0,hV.g.b.at1,hV.p.at1⟩))
 go_wp2;refine wp_region_S 6 (λV=>OwB Z w W V B M (.slice A3 dl cap3) (.slice (some ⟨lb,loff,none⟩) nl cap2) vr l base day kv CA cn cc PA pn pc pid pcur pu) (by kernel_rfl) ?_;have hS:(λV=>OwB Z w W V B M (.slice A3 dl cap3) (.slice (some ⟨lb,loff,none⟩) nl cap2) vr l base day kv CA cn cc PA pn pc pid pcur pu) w0.drew:=h0.below (Below.refl _ _).drew;clear h0;generalize w0.drew=w1 at*
 (refine tkZ 0 ?_ hS ?_ ?_;rotate_left;intro w;go_simp;(try with_reducible rfl);simp only[nr])
 try simp only[List.getElem_toArray,List.getElem_cons_zero,List.getElem_cons_succ,nr]
 (refine tkZ 1 ?_ hS ?_ ?_;rotate_left;intro w;go_simp;(try with_reducible rfl);simp only[nr])
 try simp only[List.getElem_toArray,List.getElem_cons_zero,List.getElem_cons_succ,nr]
 (refine tkZ 2 ?_ hS ?_ ?_;rotate_left;intro w;go_simp;(try with_reducible rfl);simp only[nr])
 try simp only[List.getElem_toArray,List.getElem_cons_zero,List.getElem_cons_succ,nr]
 (refine tkS 3 ?_ hS ?_ ?_;rotate_left;intro w hkw;obtain⟨g0,g1,p1⟩:=HC.out _ hkw;clear hkw;go_simp;(try with_reducible rfl);simp only[nr])
 try simp only[List.getElem_toArray,List.getElem_cons_zero,List.getElem_cons_succ,nr]
 (refine tkZ 4 ?_ hS ?_ ?_;rotate_left;intro w;go_simp;(try with_reducible rfl);simp only[nr])
 try simp only[List.getElem_toArray,List.getElem_cons_zero,List.getElem_cons_succ,nr]
 (refine tkS 5 ?_ hS ?_ ?_;rotate_left;intro w hkw;obtain⟨g0,g1,p1⟩:=HC.out _ hkw;clear hkw;go_simp;(try with_reducible rfl);simp only[nr])
 try simp only[List.getElem_toArray,List.getElem_cons_zero,List.getElem_cons_succ,nr]
 refine wS1 6 (λK hK=> ?_);go_wp2_with fail
 refine(HCL.out _ hS.be).mono ?_;rintro e w2 ⟨rfl,hb2⟩;have hS2:=hS.below hb2;refine hK _ _ (Or.inr hS2) ?_;clear hK K;try simp only[List.getElem_toArray,List.getElem_cons_zero,List.getElem_cons_succ,nr]
 replace hS:(λV=>OwB Z w W V B M (.slice A3 dl cap3) (.slice (some ⟨lb,loff,none⟩) nl cap2) vr l base day kv CA cn cc PA pn pc pid pcur pu) w2:=hS2;clear hS2 hb2
 (refine tkZ 7 ?_ hS ?_ ?_;rotate_left;intro w;go_simp;(try with_reducible rfl);simp only[nr])
 try simp only[List.getElem_toArray,List.getElem_cons_zero,List.getElem_cons_succ,nr]
 (refine tkZ 8 ?_ hS ?_ ?_;rotate_left;intro w;go_simp;(try with_reducible rfl);simp only[nr])
 try simp only[List.getElem_toArray,List.getElem_cons_zero,List.getElem_cons_succ,nr]
 (refine tkZ 9 ?_ hS ?_ ?_;rotate_left;intro w;go_simp;(try with_reducible rfl);simp only[nr])
 try simp only[List.getElem_toArray,List.getElem_cons_zero,List.getElem_cons_succ,nr]
 (refine tkZ 10 ?_ hS ?_ ?_;rotate_left;intro w;go_simp;(try with_reducible rfl);simp only[nr])
 try simp only[List.getElem_toArray,List.getElem_cons_zero,List.getElem_cons_succ,nr]
 (refine tkZ 11 ?_ hS ?_ ?_;rotate_left;intro w;go_simp;(try with_reducible rfl);simp only[nr])
 try simp only[List.getElem_toArray,List.getElem_cons_zero,List.getElem_cons_succ,nr]
 refine wSd ?_ _;have hL:=HLC.out w2 hS.g.be;have hl6:w2.cell? ⟨lb,loff+lf*7+6,none⟩=_:=hL 6 _ rfl;have hll:=lt_of_cell hl6;have b1:=hS.g.b.at1;have bl:=hS.g.b.lt;have hli1:=HLI.out.1;have hli0:=HLI.out.2;have H2:=hid hS;clear hL hS HLC HLI;by_cases hct:ln.ctl=true
 ·have HR1:=hid (HR.out.trans (if_pos hct));rw[hct]at hl6;have p0:=H2.out.p.at0;have pl:=H2.out.p.lt;go_wp2_with fail
  refine(HTT.out w2 H2.out.g).mono ?_;obtain⟨a,b,c,hx,-⟩:=resV_form TV;rw[hx];rintro e w3 ⟨rfl,hb3⟩;have h3:=H2.out.below hb3;have HX:=hid hx;have r0:=h3.r.at0;have r1:=h3.r.at1;have r2:=h3.r.at2;have r3:=h3.r.at3;have g0:=h3.r.frozen 0;have g1:=h3.r.frozen 1;have g2:=h3.r.frozen 2;have g3:=h3.r.frozen 3;have gl:=h3.r.lt;have H6:=hid h3;clear h3 hb3 H2 hl6 hll b1 bl p0 pl hx;go_wp2_with fail
  have HO:=H6.out.out a b c TV.2;have r0:=HO.1.at0;have r1:=HO.1.at1;have r2:=HO.1.at2;have r3:=HO.1.at3;exact bodyPost_ret (v:= .tuple #[.agg #[.bool a,.string b,.string c,.int .i64 TV.2],.bool true]) (by simp[results,Tryz.results31,go_sem,r0,r1,r2,r3]) rfl ⟨by rw[HR1.out,HX.out],HO.2⟩
 ·have hct:ln.ctl=false:=by simpa using hct
  have HR1:=hid (HR.out.trans (if_neg (by rw[hct];decide)));rw[hct]at hl6;have HOF:=hid (of_any 0 1 (by unfold I64;omega) (by unfold I64;omega) (by decide));rw[show ofR 0 1=rt0 from rfl]at HOF;obtain⟨zn,z0,z1,hz⟩:∃zn z0 z1,rtV rt0= .agg #[.bool zn,.string z0,.string z1]:=⟨_,_,_,rfl⟩;rw[hz]at HOF;have HZ:=hid (resV_of (R:=(rt0,0)) hz);clear hz;go_wp2_with fail
  refine(HOF.out w2 (HTB.out w2 H2.out.g.be)).mono ?_;rintro e w3 ⟨rfl,hb3⟩;have h3:=H2.out.below hb3;have h4:=h3.below (below1 w3 (.cells #[.bool zn,.string z0,.string z1] 53));have hX:=Blk.new w3 53 #[.bool zn,.string z0,.string z1];clear HOF hb3 h3 hl6 hll b1 bl H2;go_upto_region 5 with fail
  obtain⟨XB,hXB⟩:∃XB,XB=w3.heap.size:=⟨_,rfl⟩;rw[<-hXB]at hX⊢;generalize w3.alloc (.cells #[.bool zn,.string z0,.string z1] 53)=w4 at*;clear hXB;have q0:=hX.at0;have q1:=hX.at1;have q2:=hX.at2;have ql:=hX.lt;have r0:=h4.r.at0;have r1:=h4.r.at1;have r2:=h4.r.at2;have r3:=h4.r.at3;have g0:=h4.r.frozen 0;have g1:=h4.r.frozen 1;have g2:=h4.r.frozen 2;have g3:=h4.r.frozen 3;have gl:=h4.r.lt;have H6:=hid h4;clear h4 hX;go_wp2_with fail
  have HO:=H6.out.out zn z0 z1 0;have r0:=HO.1.at0;have r1:=HO.1.at1;have r2:=HO.1.at2;have r3:=HO.1.at3;exact bodyPost_ret (v:= .tuple #[.agg #[.bool zn,.string z0,.string z1,.int .i64 0],.bool false]) (by simp[results,Tryz.results31,go_sem,r0,r1,r2,r3]) rfl ⟨by rw[HR1.out,HZ.out],HO.2⟩
end
section
open Go.Shelf
theorem ctl_res{Z:Zone}{w:World}{vd vl vr:Value}{t:TarD}{l:List ProdD}{r:List RateD}{base:ByteArray}{kv:List (ByteArray × Value)}(h:GdsIn Z w vd vl vr t l r base kv)(day:Int):∀p∈l,ResOk (ctlP t l r base day p).1:=by
 intro p _;unfold ctlP;split
 ·exact resOk_tot h.cnt own_res (l.length+1) p.id
 ·exact λ_=>rt0_ok
theorem nothing_total(Z:Zone)(w:World)(B M:Nat)(vd vl vr:Value)(t:TarD)(l:List ProdD)(r:List RateD)(base:ByteArray)(day:Int)(kv:List (ByteArray × Value))(hI:GdsIn Z w vd vl vr t l r base kv)
  (id:ByteArray)(W:World)(hin:id∈idsP l)(hg:GdsR Z w W B M vd vl vr l base day kv):
  Calls Tryz.prog 29 #[.pointer (some ⟨B,0,none⟩),.string id,.func (.func 31) #[] #[]] W λe W'=>e= .returned (resV (totC t l r base day id))∧Below W.heap.size W W':=by
 obtain⟨_,_,⟨o,ho⟩,_⟩:=checkP_ok hI.ck;exact total_any Z w B M vd vl vr l base day kv hI.kv hI.z hI.tab hI.cnt o ho (ctlP t l r base day) 31 Tryz.egNothing (ctl_res hI day) (λU hU p hpl cs hp=>nothing_any Z w U B M vd vl vr t l r base day kv hI hU p hpl cs hp) id W hin hg
structure VlB (w W:World) (vd vl:Value):Prop where
 a:Blk W w.heap.size 27 #[vd,vl]
 r:Blk W (w.heap.size+1) 53 #[.bool false,.string ⟨#[]⟩,.string ⟨#[]⟩]
 be:Below w.heap.size w W
theorem VlB.below{w W W':World}{vd vl:Value}(h:VlB w W vd vl)(hb:Below W.heap.size W W'):VlB w W' vd vl:=
 ⟨h.a.below hb h.a.lt,h.r.below hb h.r.lt,HBEL_trans h.be hb⟩
theorem VlB.new(w:World)(vd vl:Value):VlB w ((w.alloc (.cells #[vd,vl] 27)).alloc (.cells #[.bool false,.string ⟨#[]⟩,.string ⟨#[]⟩] 53)) vd vl:=by
 have h1:=Blk.new (w.alloc (.cells #[vd,vl] 27)) 53 #[.bool false,.string ⟨#[]⟩,.string ⟨#[]⟩];rw[World.size_alloc]at h1;exact⟨(Blk.new w _ _).alloc _,h1,(below1 w _).alloc (by simp) _⟩
theorem VlB.out{w W:World}{vd vl:Value}(h:VlB w W vd vl)(x:Bool)(y z:ByteArray):
  Blk (((W.setCell ⟨w.heap.size+1,0,none⟩ (.bool x)).setCell ⟨w.heap.size+1,1,none⟩ (.string y)).setCell ⟨w.heap.size+1,2,none⟩ (.string z)) (w.heap.size+1) 53 #[.bool x,.string y,.string z]∧
  Below w.heap.size w (((W.setCell ⟨w.heap.size+1,0,none⟩ (.bool x)).setCell ⟨w.heap.size+1,1,none⟩ (.string y)).setCell ⟨w.heap.size+1,2,none⟩ (.string z)):=
 ⟨((h.r.set_ 0 _).set_ 1 _).set_ 2 _,((h.be.setCell (Nat.le_succ _) _).setCell (Nat.le_succ _) _).setCell (Nat.le_succ _) _⟩
theorem openE_zero{t:TarD}{l:List ProdD}{r:List RateD}{base id:ByteArray}{day:Int}(h:openE t l r base id day=0):checkP t l=0∧id∈idsP l:=by
 unfold openE at h;split at h
 ·contradiction
 rename_i h1;split at h
 ·cases h
 split at h
 ·rename_i h3;exact⟨by simpa using h1,h3⟩
 ·cases h
theorem value_any(Z:Zone)(vd vl v vr:Value)(t:TarD)(l:List ProdD)(r:List RateD)(base id:ByteArray)(day:Int)(w:World)(ht:TarR Z w vd vl t)(h:Prods Z w v l)(hr:Rates Z w vr r)(hz:∀b,Z b->b<w.heap.size)(hf:t.fine)(hbs:base.size≤140737488355328)(htab:TabB w.heap.size w):
  Calls Tryz.prog 9 #[.agg #[vd,vl],v,vr,.string base,.string id,.int .i64 day] w λe w'=>e= .returned (.tuple #[rtE (valueP t l r base id day),.int .i64 (valueP t l r base id day).2])∧Below w.heap.size w w':=by
 have HOP:=hid (λW(hW:Below w.heap.size w W)=>open_any Z vd vl v vr t l r base id day W (ht.keep (Keeps.of_below hW)) (h.keep (Keeps.of_below hW)) (hr.keep (Keeps.of_below hW)) (λb hb=>Nat.lt_of_lt_of_le (hz b hb) hW.size) hf hbs ((htab.on hW).mono hW.size));have HTT:=hid (λW(hW:Below w.heap.size w W)(h0:openE t l r base id day=0) U B M kv(hkv:ProdKv Z W kv l)(hU:GdsR Z W U B M vd vl vr l base day kv)=>own_total Z W B M vd vl vr t l r base day kv ⟨hkv,ht.keep (Keeps.of_below hW),hf,hr.keep (Keeps.of_below hW),λb hb=>Nat.lt_of_lt_of_le (hz b hb) hW.size,hbs,(htab.on hW).mono hW.size,(openE_zero h0).1⟩ id U (openE_zero h0).2 hU);obtain⟨A,cap,hv,-,-⟩:=h.form;obtain⟨A2,cap2,hvl⟩:∃A2 cap2,vl= .slice A2 t.lines.length cap2:=by obtain⟨⟨A2,cap2,e,_⟩⟩:=ht.l;exact⟨A2,cap2,e⟩
 obtain⟨A3,cap3,hvd⟩:∃A3 cap3,vd= .slice A3 t.dom.length cap3:=by obtain⟨⟨A3,cap3,e,_⟩,_⟩:=ht.d;exact⟨A3,cap3,e⟩
 obtain⟨A4,cap4,hvr⟩:∃A4 cap4,vr= .slice A4 r.length cap4:=by obtain⟨⟨A4,cap4,e,_⟩,_⟩:=hr;exact⟨A4,cap4,e⟩
 subst hv hvl hvd hvr;obtain⟨RR,hRR⟩:∃RR,RR=valueP t l r base id day:=⟨_,rfl⟩;rw[<-hRR];unfold valueP at hRR;have HR:=hid hRR;clear ht h hr hz hf hbs htab hRR;generalize openE t l r base id day=E at*;generalize totV l r base day id=TV at*;generalize t.dom.length=dl at*;generalize t.lines.length=nl at*;generalize r.length=rl at*;generalize hll:l.length=ll at*;have h0:=VlB.new w (.slice A3 dl cap3) (.slice A2 nl cap2);go_enter Tryz.func9,Tryz.ntmps9
 go_upto_region 1 with fail
 generalize (w.alloc (.cells #[.slice A3 dl cap3,.slice A2 nl cap2] 27)).alloc (.cells #[.bool false,.string ⟨#[]⟩,.string ⟨#[]⟩] 53)=w0 at*;have a0:=h0.a.at0;have a1:=h0.a.at1;have H0:=hid h0;clear h0;go_wp2_with fail
 refine(HOP.out w0 H0.out.be).mono ?_;rintro e w1 ⟨hb1,hpost⟩;by_cases hE:E=0
 ·subst hE;rw[if_pos rfl]at hpost;obtain⟨B,M,kv,rfl,hG,hkv⟩:=hpost;have HR1:=hid (HR.out.trans (if_neg (by decide)));have HTK:=hid (HTT.out w0 H0.out.be (by first|exact rfl|trivial) w1 B M kv hkv hG);have H1:=hid (H0.out.below hb1);clear HR HTT hG hkv hb1 H0 a0 a1 HOP;go_wp2_with fail
  refine HTK.out.mono ?_;obtain⟨a,b,c,hx,hxe⟩:=resV_form TV;rw[hx];rintro e w2 ⟨rfl,hb2⟩;have h2:=(H1.out.below hb2).below (below1 w2 (.cells #[.bool a,.string b,.string c,.int .i64 TV.2] 80));have hX:=Blk.new w2 80 #[.bool a,.string b,.string c,.int .i64 TV.2];have hXw:=(H1.out.below hb2).r.lt;clear hb2 H1 HTK hx;go_upto_region 5 with fail
  obtain⟨XB,hXB⟩:∃XB,XB=w2.heap.size:=⟨_,rfl⟩;rw[<-hXB]at hXw;rw[<-hXB]at hX⊢;generalize w2.alloc (.cells #[.bool a,.string b,.string c,.int .i64 TV.2] 80)=w3 at*;clear hXB;have q0:=hX.at0;have q1:=hX.at1;have q2:=hX.at2;have q3:=hX.at3;have ql:=hX.lt;have r0:=h2.r.at0;have r1:=h2.r.at1;have r2:=h2.r.at2;have g0:=h2.r.frozen 0;have g1:=h2.r.frozen 1;have g2:=h2.r.frozen 2;have gl:=h2.r.lt;have HXE:=hid hxe;by_cases hte:TV.2=0
  ·have H6:=hid h2;clear h2 hX hxe;(go_wp2_with fail);have HO:=H6.out.out a b c;have r0:=HO.1.at0;have r1:=HO.1.at1;have r2:=HO.1.at2;exact bodyPost_ret (v:= .tuple #[.agg #[.bool a,.string b,.string c],.int .i64 0]) (by simp[results,Tryz.results9,go_sem,r0,r1,r2]) rfl ⟨by rw[HR1.out,HXE.out,hte],HO.2⟩
  ·(have hte2:(TV.2==0)=false:=by simp[hte]);have HR2:=hid (show rtE TV= .agg #[.bool false,.string ⟨#[]⟩,.string ⟨#[]⟩] from rtE_err (r:=TV.1) hte);(go_upto_region 6 with fail);have h3:=h2.below (Below.refl _ w3).drew;have hX3:=hX.drew;clear q0 q1 q2 q3 ql r0 r1 r2 g0 g1 g2 gl h2 hX hxe;refine wp_region_S 4 (λW=>Blk W XB 80 #[.bool a,.string b,.string c,.int .i64 TV.2]) (by kernel_rfl) ?_;have hS:(λW:World=>Blk W XB 80 #[.bool a,.string b,.string c,.int .i64 TV.2]) w3.drew:=hX3;generalize w3.drew=w4 at*
   (refine tkZ 0 ?_ hS ?_ ?_;rotate_left;intro w;go_simp;(try with_reducible rfl);simp only[nr])
   try simp only[List.getElem_toArray,List.getElem_cons_zero,List.getElem_cons_succ,nr]
   (refine tkZ 1 ?_ hS ?_ ?_;rotate_left;intro w;go_simp;(try with_reducible rfl);simp only[nr])
   try simp only[List.getElem_toArray,List.getElem_cons_zero,List.getElem_cons_succ,nr]
   (refine tkS 2 ?_ hS ?_ ?_;rotate_left;intro w hkw;have q3:=hkw.at3;clear hkw;go_simp;(try with_reducible rfl);simp only[nr])
   (try simp only[List.getElem_toArray,List.getElem_cons_zero,List.getElem_cons_succ,nr]);have r0:=h3.r.at0;have r1:=h3.r.at1;have r2:=h3.r.at2;have g0:=h3.r.frozen 0;have g1:=h3.r.frozen 1;have g2:=h3.r.frozen 2;have gl:=h3.r.lt;have H6:=hid h3;clear h3 hX3;refine wS1 3 (λK hK=> ?_);(go_wp2_with fail);refine hK _ _ (Or.inr (((hS.far (p:=⟨w.heap.size+1,0,none⟩) (by show XB≠w.heap.size+1;omega) (.bool false)).far (p:=⟨w.heap.size+1,1,none⟩) (by show XB≠w.heap.size+1;omega) (.string ⟨#[]⟩)).far (p:=⟨w.heap.size+1,2,none⟩) (by show XB≠w.heap.size+1;omega) (.string ⟨#[]⟩))) ?_;clear hK K;(try simp only[List.getElem_toArray,List.getElem_cons_zero,List.getElem_cons_succ,nr]);refine wS1 4 (λK hK=> ?_);(go_wp2_with fail);refine hK _ _ (Or.inl rfl) ?_;clear hK K;(try simp only[List.getElem_toArray,List.getElem_cons_zero,List.getElem_cons_succ,nr]);refine wSd ?_ _;(go_wp2_with fail);have HO:=H6.out.out false ⟨#[]⟩ ⟨#[]⟩;have r0:=HO.1.at0;have r1:=HO.1.at1;have r2:=HO.1.at2;exact bodyPost_ret (v:= .tuple #[.agg #[.bool false,.string ⟨#[]⟩,.string ⟨#[]⟩],.int .i64 TV.2]) (by simp[results,Tryz.results9,go_sem,r0,r1,r2]) rfl ⟨by rw[HR1.out,HR2.out],HO.2⟩
 ·rw[if_neg hE]at hpost;subst hpost;have HR1:=hid (HR.out.trans (if_pos hE));have h1:=H0.out.below hb1;have r0:=h1.r.at0;have r1:=h1.r.at1;have r2:=h1.r.at2;have g0:=h1.r.frozen 0;have g1:=h1.r.frozen 1;have g2:=h1.r.frozen 2;have gl:=h1.r.lt;have hE2:(E==0)=false:=by simp[hE]
  have H6:=hid h1;clear h1 hb1 H0 a0 a1 HOP HTT HR;go_wp2_with fail
  have HO:=H6.out.out false ⟨#[]⟩ ⟨#[]⟩;have r0:=HO.1.at0;have r1:=HO.1.at1;have r2:=HO.1.at2;exact bodyPost_ret (v:= .tuple #[.agg #[.bool false,.string ⟨#[]⟩,.string ⟨#[]⟩],.int .i64 E]) (by simp[results,Tryz.results9,go_sem,r0,r1,r2]) rfl ⟨by rw[HR1.out,rtE_err hE],HO.2⟩
end
section
open Go.Shelf
theorem VlB.set{w W:World}{vd vl:Value}(h:VlB w W vd vl){p:Addr}(hp:w.heap.size+1<p.block)(v:Value):VlB w (W.setCell p v) vd vl:=
 ⟨h.a.far (by omega) v,h.r.far (by omega) v,h.be.setCell (by omega) v⟩
theorem controlled_any(Z:Zone)(vd vl v vr:Value)(t:TarD)(l:List ProdD)(r:List RateD)(base id:ByteArray)(day:Int)(w:World)(ht:TarR Z w vd vl t)(h:Prods Z w v l)(hr:Rates Z w vr r)(hz:∀b,Z b->b<w.heap.size)(hf:t.fine)(hbs:base.size≤140737488355328)(htab:TabB w.heap.size w):
  Calls Tryz.prog 10 #[.agg #[vd,vl],v,vr,.string base,.string id,.int .i64 day] w λe w'=>e= .returned (.tuple #[rtE (controlP t l r base id day),.int .i64 (controlP t l r base id day).2])∧Below w.heap.size w w':=by
 have HOP:=hid (λW(hW:Below w.heap.size w W)=>open_any Z vd vl v vr t l r base id day W (ht.keep (Keeps.of_below hW)) (h.keep (Keeps.of_below hW)) (hr.keep (Keeps.of_below hW)) (λb hb=>Nat.lt_of_lt_of_le (hz b hb) hW.size) hf hbs ((htab.on hW).mono hW.size));have HTC:=hid (λW(hW:Below w.heap.size w W)(h0:openE t l r base id day=0) U B M kv(hkv:ProdKv Z W kv l)(hU:GdsR Z W U B M vd vl vr l base day kv)=>nothing_total Z W B M vd vl vr t l r base day kv ⟨hkv,ht.keep (Keeps.of_below hW),hf,hr.keep (Keeps.of_below hW),λb hb=>Nat.lt_of_lt_of_le (hz b hb) hW.size,hbs,(htab.on hW).mono hW.size,(openE_zero h0).1⟩ id U (openE_zero h0).2 hU);have HTT:=hid (λW(hW:Below w.heap.size w W)(h0:openE t l r base id day=0) U B M kv(hkv:ProdKv Z W kv l)(hU:GdsR Z W U B M vd vl vr l base day kv)=>own_total Z W B M vd vl vr t l r base day kv ⟨hkv,ht.keep (Keeps.of_below hW),hf,hr.keep (Keeps.of_below hW),λb hb=>Nat.lt_of_lt_of_le (hz b hb) hW.size,hbs,(htab.on hW).mono hW.size,(openE_zero h0).1⟩ id U (openE_zero h0).2 hU);obtain⟨A,cap,hv,-,-⟩:=h.form;obtain⟨A2,cap2,hvl⟩:∃A2 cap2,vl= .slice A2 t.lines.length cap2:=by obtain⟨⟨A2,cap2,e,_⟩⟩:=ht.l;exact⟨A2,cap2,e⟩
 obtain⟨A3,cap3,hvd⟩:∃A3 cap3,vd= .slice A3 t.dom.length cap3:=by obtain⟨⟨A3,cap3,e,_⟩,_⟩:=ht.d;exact⟨A3,cap3,e⟩
 obtain⟨A4,cap4,hvr⟩:∃A4 cap4,vr= .slice A4 r.length cap4:=by obtain⟨⟨A4,cap4,e,_⟩,_⟩:=hr;exact⟨A4,cap4,e⟩
 subst hv hvl hvd hvr;obtain⟨RR,hRR⟩:∃RR,RR=controlP t l r base id day:=⟨_,rfl⟩;rw[<-hRR];unfold controlP at hRR;have HR:=hid hRR;clear ht h hr hz hf hbs htab hRR;generalize openE t l r base id day=E at*;generalize totV l r base day id=TV at*;generalize totC t l r base day id=TC at*;generalize t.dom.length=dl at*;generalize t.lines.length=nl at*;generalize r.length=rl at*;generalize hll:l.length=ll at*;have h0:=VlB.new w (.slice A3 dl cap3) (.slice A2 nl cap2);go_enter Tryz.func10,Tryz.ntmps10
 go_upto_region 1 with fail
 generalize (w.alloc (.cells #[.slice A3 dl cap3,.slice A2 nl cap2] 27)).alloc (.cells #[.bool false,.string ⟨#[]⟩,.string ⟨#[]⟩] 53)=w0 at*;have a0:=h0.a.at0;have a1:=h0.a.at1;have H0:=hid h0;clear h0;go_wp2_with fail
 refine(HOP.out w0 H0.out.be).mono ?_;rintro e w1 ⟨hb1,hpost⟩;by_cases hE:E=0
 ·subst hE;rw[if_pos rfl]at hpost;obtain⟨B,M,kv,rfl,hG,hkv⟩:=hpost;have HR1:=hid (HR.out.trans (if_neg (by decide)));have HTK:=hid (HTT.out w0 H0.out.be (by first|exact rfl|trivial) w1 B M kv hkv hG);have HTC2:=hid (λU hU=>HTC.out w0 H0.out.be (by first|exact rfl|trivial) U B M kv hkv hU);have HGG:=hid hG;have H1:=hid (H0.out.below hb1);clear HR HTT HTC hG hkv hb1 H0 a0 a1 HOP;go_wp2_with fail
  refine HTK.out.mono ?_;obtain⟨a,b,c,hx,hxe⟩:=resV_form TV;rw[hx];rintro e w2 ⟨rfl,hb2⟩;have hG3:=(HGG.out.below hb2).below (below1 w2 (.cells #[.bool a,.string b,.string c,.int .i64 TV.2] 80));have h2:=(H1.out.below hb2).below (below1 w2 (.cells #[.bool a,.string b,.string c,.int .i64 TV.2] 80));have hX:=Blk.new w2 80 #[.bool a,.string b,.string c,.int .i64 TV.2];have hXw:=(H1.out.below hb2).r.lt;clear hb2 H1 HTK hx;go_upto_region 5 with fail
  obtain⟨XB,hXB⟩:∃XB,XB=w2.heap.size:=⟨_,rfl⟩;rw[<-hXB]at hXw;rw[<-hXB]at hX⊢;generalize w2.alloc (.cells #[.bool a,.string b,.string c,.int .i64 TV.2] 80)=w3 at*;clear hXB;have q0:=hX.at0;have q1:=hX.at1;have q2:=hX.at2;have q3:=hX.at3;have ql:=hX.lt;have r0:=h2.r.at0;have r1:=h2.r.at1;have r2:=h2.r.at2;have g0:=h2.r.frozen 0;have g1:=h2.r.frozen 1;have g2:=h2.r.frozen 2;have gl:=h2.r.lt;have HXE:=hid hxe;by_cases hte:TV.2=0
  ·have HR2:=hid (HR1.out.trans (if_neg (by rw[hte];decide)));have HCK:=hid (HTC2.out w3 hG3);have hXb:=hX;have H2:=hid (And.intro h2 hXb);have f0:=hX.frozen 0;have f1:=hX.frozen 1;have f2:=hX.frozen 2;have f3:=hX.frozen 3;clear h2 hX hXb hxe HXE r0 r1 r2 g0 g1 g2 gl q0 q1 q2 f0 f1 f2 f3 hG3 HR1;(go_wp2_with fail);refine HCK.out.mono ?_;obtain⟨x,y,z,hx,hxe⟩:=resV_form TC;rw[hx];rintro e w4 ⟨rfl,hb4⟩;have h4:=H2.out.1.below hb4;have hX4:=H2.out.2.below hb4 H2.out.2.lt;have q0:=hX4.at0;have q1:=hX4.at1;have q2:=hX4.at2;have q3:=hX4.at3;have f0:=hX4.frozen 0;have f1:=hX4.frozen 1;have f2:=hX4.frozen 2;have f3:=hX4.frozen 3;have ql:=hX4.lt;have HXE:=hid hxe;have H4:=hid (And.intro h4 hX4);clear h4 hX4 H2 HCK hb4 hx hxe;go_upto_region 7 with fail
   have h5:VlB w ((((w4.setCell ⟨XB,0,none⟩ (.bool x)).setCell ⟨XB,1,none⟩ (.string y)).setCell ⟨XB,2,none⟩ (.string z)).setCell ⟨XB,3,none⟩ (.int .i64 TC.2)) (.slice A3 dl cap3) (.slice A2 nl cap2):=
    (((H4.out.1.set (p:=⟨XB,0,none⟩) hXw _).set (p:=⟨XB,1,none⟩) hXw _).set (p:=⟨XB,2,none⟩) hXw _).set (p:=⟨XB,3,none⟩) hXw _
   have hX:=(((H4.out.2.set_ 0 (.bool x)).set_ 1 (.string y)).set_ 2 (.string z)).set_ 3 (.int .i64 TC.2);clear q0 q1 q2 q3 f0 f1 f2 f3 ql H4;generalize (((w4.setCell ⟨XB,0,none⟩ (.bool x)).setCell ⟨XB,1,none⟩ (.string y)).setCell ⟨XB,2,none⟩ (.string z)).setCell ⟨XB,3,none⟩ (.int .i64 TC.2)=w5 at*;have hX:Blk w5 XB 80 #[.bool x,.string y,.string z,.int .i64 TC.2]:=hX;have q0:=hX.at0;have q1:=hX.at1;have q2:=hX.at2;have q3:=hX.at3;have ql:=hX.lt;have r0:=h5.r.at0;have r1:=h5.r.at1;have r2:=h5.r.at2;have g0:=h5.r.frozen 0;have g1:=h5.r.frozen 1;have g2:=h5.r.frozen 2;have gl:=h5.r.lt;by_cases hce:TC.2=0
   ·have H6:=hid h5;clear h5 hX;(go_wp2_with fail);have HO:=H6.out.out x y z;have r0:=HO.1.at0;have r1:=HO.1.at1;have r2:=HO.1.at2;exact bodyPost_ret (v:= .tuple #[.agg #[.bool x,.string y,.string z],.int .i64 0]) (by simp[results,Tryz.results10,go_sem,r0,r1,r2]) rfl ⟨by rw[HR2.out,HXE.out,hce],HO.2⟩
   ·(have hce2:(TC.2==0)=false:=by simp[hce]);have HR3:=hid (show rtE TC= .agg #[.bool false,.string ⟨#[]⟩,.string ⟨#[]⟩] from rtE_err (r:=TC.1) hce);(go_upto_region 8 with fail);have h3:=h5.below (Below.refl _ w5).drew;have hX3:=hX.drew;clear q0 q1 q2 q3 ql r0 r1 r2 g0 g1 g2 gl h5 hX;refine wp_region_S 4 (λW=>Blk W XB 80 #[.bool x,.string y,.string z,.int .i64 TC.2]) (by kernel_rfl) ?_;have hS:(λW:World=>Blk W XB 80 #[.bool x,.string y,.string z,.int .i64 TC.2]) w5.drew:=hX3;generalize w5.drew=w6 at*
    (refine tkZ 0 ?_ hS ?_ ?_;rotate_left;intro w;go_simp;(try with_reducible rfl);simp only[nr])
    try simp only[List.getElem_toArray,List.getElem_cons_zero,List.getElem_cons_succ,nr]
    (refine tkZ 1 ?_ hS ?_ ?_;rotate_left;intro w;go_simp;(try with_reducible rfl);simp only[nr])
    try simp only[List.getElem_toArray,List.getElem_cons_zero,List.getElem_cons_succ,nr]
    (refine tkS 2 ?_ hS ?_ ?_;rotate_left;intro w hkw;have q3:=hkw.at3;clear hkw;go_simp;(try with_reducible rfl);simp only[nr])
    (try simp only[List.getElem_toArray,List.getElem_cons_zero,List.getElem_cons_succ,nr]);have r0:=h3.r.at0;have r1:=h3.r.at1;have r2:=h3.r.at2;have g0:=h3.r.frozen 0;have g1:=h3.r.frozen 1;have g2:=h3.r.frozen 2;have gl:=h3.r.lt;have H6:=hid h3;clear h3 hX3;refine wS1 3 (λK hK=> ?_);(go_wp2_with fail);refine hK _ _ (Or.inr (((hS.far (p:=⟨w.heap.size+1,0,none⟩) (by show XB≠w.heap.size+1;omega) (.bool false)).far (p:=⟨w.heap.size+1,1,none⟩) (by show XB≠w.heap.size+1;omega) (.string ⟨#[]⟩)).far (p:=⟨w.heap.size+1,2,none⟩) (by show XB≠w.heap.size+1;omega) (.string ⟨#[]⟩))) ?_;clear hK K;(try simp only[List.getElem_toArray,List.getElem_cons_zero,List.getElem_cons_succ,nr]);refine wS1 4 (λK hK=> ?_);(go_wp2_with fail);refine hK _ _ (Or.inl rfl) ?_;clear hK K;(try simp only[List.getElem_toArray,List.getElem_cons_zero,List.getElem_cons_succ,nr]);refine wSd ?_ _;(go_wp2_with fail);have HO:=H6.out.out false ⟨#[]⟩ ⟨#[]⟩;have r0:=HO.1.at0;have r1:=HO.1.at1;have r2:=HO.1.at2;exact bodyPost_ret (v:= .tuple #[.agg #[.bool false,.string ⟨#[]⟩,.string ⟨#[]⟩],.int .i64 TC.2]) (by simp[results,Tryz.results10,go_sem,r0,r1,r2]) rfl ⟨by rw[HR2.out,HR3.out],HO.2⟩
  ·(have hte2:(TV.2==0)=false:=by simp[hte]);have HR2:=hid (HR1.out.trans (if_pos hte));have HR3:=hid (rtE_err (r:=rt0) hte);clear hG3;(go_upto_region 8 with fail);have h3:=h2.below (Below.refl _ w3).drew;have hX3:=hX.drew;clear q0 q1 q2 q3 ql r0 r1 r2 g0 g1 g2 gl h2 hX hxe;refine wp_region_S 4 (λW=>Blk W XB 80 #[.bool a,.string b,.string c,.int .i64 TV.2]) (by kernel_rfl) ?_;have hS:(λW:World=>Blk W XB 80 #[.bool a,.string b,.string c,.int .i64 TV.2]) w3.drew:=hX3;generalize w3.drew=w4 at*
   (refine tkZ 0 ?_ hS ?_ ?_;rotate_left;intro w;go_simp;(try with_reducible rfl);simp only[nr])
   try simp only[List.getElem_toArray,List.getElem_cons_zero,List.getElem_cons_succ,nr]
   (refine tkZ 1 ?_ hS ?_ ?_;rotate_left;intro w;go_simp;(try with_reducible rfl);simp only[nr])
   try simp only[List.getElem_toArray,List.getElem_cons_zero,List.getElem_cons_succ,nr]
   (refine tkS 2 ?_ hS ?_ ?_;rotate_left;intro w hkw;have q3:=hkw.at3;clear hkw;go_simp;(try with_reducible rfl);simp only[nr])
   (try simp only[List.getElem_toArray,List.getElem_cons_zero,List.getElem_cons_succ,nr]);have r0:=h3.r.at0;have r1:=h3.r.at1;have r2:=h3.r.at2;have g0:=h3.r.frozen 0;have g1:=h3.r.frozen 1;have g2:=h3.r.frozen 2;have gl:=h3.r.lt;have H6:=hid h3;clear h3 hX3;refine wS1 3 (λK hK=> ?_);(go_wp2_with fail);refine hK _ _ (Or.inr (((hS.far (p:=⟨w.heap.size+1,0,none⟩) (by show XB≠w.heap.size+1;omega) (.bool false)).far (p:=⟨w.heap.size+1,1,none⟩) (by show XB≠w.heap.size+1;omega) (.string ⟨#[]⟩)).far (p:=⟨w.heap.size+1,2,none⟩) (by show XB≠w.heap.size+1;omega) (.string ⟨#[]⟩))) ?_;clear hK K;(try simp only[List.getElem_toArray,List.getElem_cons_zero,List.getElem_cons_succ,nr]);refine wS1 4 (λK hK=> ?_);(go_wp2_with fail);refine hK _ _ (Or.inl rfl) ?_;clear hK K;(try simp only[List.getElem_toArray,List.getElem_cons_zero,List.getElem_cons_succ,nr]);refine wSd ?_ _;(go_wp2_with fail);have HO:=H6.out.out false ⟨#[]⟩ ⟨#[]⟩;have r0:=HO.1.at0;have r1:=HO.1.at1;have r2:=HO.1.at2;exact bodyPost_ret (v:= .tuple #[.agg #[.bool false,.string ⟨#[]⟩,.string ⟨#[]⟩],.int .i64 TV.2]) (by simp[results,Tryz.results10,go_sem,r0,r1,r2]) rfl ⟨by rw[HR2.out,HR3.out],HO.2⟩
 ·rw[if_neg hE]at hpost;subst hpost;have HR1:=hid (HR.out.trans (if_pos hE));have h1:=H0.out.below hb1;have r0:=h1.r.at0;have r1:=h1.r.at1;have r2:=h1.r.at2;have g0:=h1.r.frozen 0;have g1:=h1.r.frozen 1;have g2:=h1.r.frozen 2;have gl:=h1.r.lt;have hE2:(E==0)=false:=by simp[hE]
  have H6:=hid h1;clear h1 hb1 H0 a0 a1 HOP HTT HTC HR;go_wp2_with fail
  have HO:=H6.out.out false ⟨#[]⟩ ⟨#[]⟩;have r0:=HO.1.at0;have r1:=HO.1.at1;have r2:=HO.1.at2;exact bodyPost_ret (v:= .tuple #[.agg #[.bool false,.string ⟨#[]⟩,.string ⟨#[]⟩],.int .i64 E]) (by simp[results,Tryz.results10,go_sem,r0,r1,r2]) rfl ⟨by rw[HR1.out,rtE_err hE],HO.2⟩
end
end Go.Proofs.YtimmfbnjndndlaaGreatDoor
