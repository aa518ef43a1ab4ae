/- Texts QR QS QU QV PF. -/
import Derived.Test.YtimmfbnjndndlaaGreatDoorM35
import Derived.Test.YtimmfbnjndndlaaGreatDoorM34
import Derived.Test.YtimmfbnjndndlaaGreatDoorM36
set_option linter.all false
namespace Go.Proofs.YtimmfbnjndndlaaGreatDoor
open Go.RowKit
set_option maxHeartbeats 8000000
set_option maxRecDepth 100000
theorem classify1_any(Z Zc:Zone)(B C:Nat)(vd vl vc:Value)(ds:List FactD)(c:List Int)(x:LineD)(cs:List Value)(w:World)(hx:LineR Z w cs x)(hd:Facts Z w vd ds)(hc:Ints Zc w vc c)(hsz:fsize x.when_≤4000000000000000000)(hz:∀b,Z b->b<w.heap.size)(hzc:∀b,Zc b->b<w.heap.size)
  (hB:Blk w B 27 #[vd,vl])(hC:Blk w C 39 #[vc]):
  Calls Tryz.prog 26 #[.agg cs.toArray,.pointer (some ⟨B,0,none⟩),.pointer (some ⟨C,0,none⟩)] w λe w'=>e= .returned (.bool (holdsS ds c x.when_))∧Below w.heap.size w w':=by
 obtain⟨A,cap,rfl,hfm⟩:=hx.form;have HH:=hid (λW(hW:Below w.heap.size w W)=>holds_any (λb=>Z b∨Zc b) vd vc ds c x.when_ _ W ((FmR.keep (Keeps.of_below hW) _ _ hfm).mono (λ_ h=> .inl h)) ((hd.keep (Keeps.of_below hW)).mono (λ_ h=> .inl h)) ((hc.keep (Keeps.of_below hW)).mono (λ_ h=> .inr h)) hsz (λb hb=>Nat.lt_of_lt_of_le (hb.elim (hz b) (hzc b)) hW.size));generalize holdsS ds c x.when_=hb at*;obtain⟨f0,hf0⟩:∃y,y=x.when_.op:=⟨_,rfl⟩;obtain⟨f1,hf1⟩:∃y,y=x.when_.name:=⟨_,rfl⟩;obtain⟨f2,hf2⟩:∃y,y=x.when_.cmp:=⟨_,rfl⟩;obtain⟨f3,hf3⟩:∃y,y=x.when_.num:=⟨_,rfl⟩;obtain⟨f4,hf4⟩:∃y,y=Value.slice A x.when_.kids.length cap:=⟨_,rfl⟩;rw[<-hf0,<-hf1,<-hf2,<-hf3,<-hf4]at HH⊢;generalize x.cls=cl at*;generalize x.ctl=ct at*;have hb0:=hB.at0;have hbl:=hB.lt;have hc0:=hC.at0;have hcl:=hC.lt;clear hf0 hf1 hf2 hf3 hf4 hfm hd hc hsz hz hzc hB hC hx;go_enter Tryz.func26,Tryz.ntmps26
 go_wp2_with fail
 refine(HH.out _ (below1 _ _)).mono ?_;rintro e w1 ⟨rfl,hb1⟩;go_wp2;go_ret;exact⟨rfl,HBEL_trans (below1 _ _) hb1⟩
theorem Tryz.egTC1:∀args w,(callFunc 26 args).run Tryz.prog w= .ok (.enter 26 args) w:=enters_of Tryz.func26 (by kernel_rfl) rfl
theorem classify_any(Z Zc:Zone)(vd vl vc:Value)(t:TarD)(c:List Int)(w:World)(h:TarR Z w vd vl t)(hc:Ints Zc w vc c)(hz:∀b,Z b->b<w.heap.size)(hzc:∀b,Zc b->b<w.heap.size)(hf:t.fine):
  Calls Tryz.prog 8 #[.agg #[vd,vl],vc] w λe w'=>e= .returned (.tuple #[.int .i64 (classT t c).1,.int .i64 (classT t c).2])∧Below w.heap.size w w':=by
 have HV:=hid (λW(hW:Below w.heap.size w W)=>tvalid_any Z vd vl t W (h.keep (Keeps.of_below hW)) (λb hb=>Nat.lt_of_lt_of_le (hz b hb) hW.size) hf);have HFT:=hid (λW(hW:Below w.heap.size w W)=>factFits_any (λb=>Z b∨Zc b) vd vc t.dom c W ((h.d.keep (Keeps.of_below hW)).mono (λ_ h=> .inl h)) ((hc.keep (Keeps.of_below hW)).mono (λ_ h=> .inr h)));obtain⟨⟨A,cap,rfl,hcap,hcap2,hbytes,hs⟩⟩:=h.l;obtain⟨⟨CA,ccap,rfl,_⟩,_⟩:=id hc
 have HC:=hid (λW(hW:Below w.heap.size w W) B C(hB:Blk W B 27 #[vd,.slice A t.lines.length cap])(hC:Blk W C 39 #[.slice CA c.length ccap])=>indexFuncLine_any 26 #[.pointer (some ⟨B,0,none⟩),.pointer (some ⟨C,0,none⟩)] Tryz.egTC1 (LineR Z W) Z t.lines (qAt t.lines λx=>holdsS t.dom c x.when_) A cap W LineR.seven
  (hs.imp (λ_ _ h=>h.keep (Keeps.of_below hW)) (Keeps.of_below hW) (λ_ h=>h)) (by omega) (λi hi cs hcs W' hW'=>by
   rw[qAt_get hi];have hWW:=HBEL_trans hW hW'
   exact classify1_any Z Zc B C vd _ _ t.dom c t.lines[i] cs W' (hcs.keep (Keeps.of_below hW')) (h.d.keep (Keeps.of_below hWW)) (hc.keep (Keeps.of_below hWW)) (hf _ (List.getElem_mem hi)) (λb hb=>Nat.lt_of_lt_of_le (hz b hb) hWW.size) (λb hb=>Nat.lt_of_lt_of_le (hzc b hb) hWW.size) (hB.below hW' hB.lt) (hC.below hW' hC.lt)))
 simp only[firstIdx_find]at HC;have eL:t.lines.findIdx (λx=>holdsS t.dom c x.when_)=lineOf t c:=rfl;rw[eL]at HC;obtain⟨RR,hRR⟩:∃RR,RR=classT t c:=⟨_,rfl⟩;rw[<-hRR];unfold classT at hRR;have HR:=hid hRR;clear hRR eL;generalize lineOf t c=k at*;generalize validT t=b1 at*;generalize fits t.dom c=b2 at*;have hlt:=hid (show t.lines.length≤140737488355328 by omega);generalize t.lines.length=n at*;have bk:=(Blk.new w 27 #[vd,.slice A n cap]).alloc (.cells #[.slice CA c.length ccap] 39);have bc:=Blk.new (w.alloc (.cells #[vd,.slice A n cap] 27)) 39 #[.slice CA c.length ccap];rw[World.size_alloc]at bc;have hB0:Below w.heap.size w ((w.alloc (.cells #[vd,.slice A n cap] 27)).alloc (.cells #[.slice CA c.length ccap] 39)):=(below1 w _).alloc (by simp) _;generalize c.length=cn at*;clear h hc hz hzc hf hs hbytes;go_enter Tryz.func8,Tryz.ntmps8
 go_wp2_with fail
 generalize (w.alloc (.cells #[vd,.slice A n cap] 27)).alloc (.cells #[.slice CA cn ccap] 39)=w0 at*;refine(HV.out _ hB0).mono ?_;rintro e w1 ⟨rfl,hb1⟩;have hB1:=HBEL_trans hB0 hb1;replace bk:=bk.below hb1 bk.lt;replace bc:=bc.below hb1 bc.lt;clear hb1 hB0 HV;cases b1
 ·have HX:=hid (HR.out.trans (if_pos rfl));go_wp2_with fail
  go_ret2;exact⟨by rw[HX.out];rfl,hB1⟩
 ·have t0:=bk.at0;have t1:=bk.at1;have tl:=bk.lt;have d0:=bc.at0;have dl:=bc.lt;have HB:=hid (And.intro bk bc);clear bk bc;go_wp2_with fail
  refine(HFT.out _ hB1).mono ?_;rintro e w2 ⟨rfl,hb2⟩;have hB2:=HBEL_trans hB1 hb2;have bk:=HB.out.1.below hb2 HB.out.1.lt;have bc:=HB.out.2.below hb2 HB.out.2.lt;clear hB1 hb2 HB HFT t0 t1 tl d0 dl;cases b2
  ·have HX:=hid (HR.out.trans (if_pos rfl));(go_wp2_with fail);go_ret2;exact⟨by rw[HX.out];rfl,hB2⟩
  ·have HR2:=hid (HR.out.trans (if_neg (by decide)));have HC2:=hid (HC.out _ hB2 _ _ bk bc);have t1:=bk.at1;have tl:=bk.lt;clear bk bc HC HR;(go_wp2_with fail);refine HC2.out.mono ?_;rintro e w3 ⟨rfl,hb3⟩;have hB3:=HBEL_trans hB2 hb3;clear hb3 HC2 t1 tl;by_cases hk:k<n
   ·have HX:=hid (HR2.out.trans (if_pos hk));rw[if_pos hk];have e1:decide (((k:Nat):Int)<0)=false:=decide_eq_false (by omega);clear hk;(go_wp2_with fail);go_ret2;exact⟨by rw[HX.out];rfl,hB3⟩
   ·have HX:=hid (HR2.out.trans (if_neg hk));rw[if_neg hk];clear hk;(go_wp2_with fail);go_ret2;exact⟨by rw[HX.out];rfl,hB3⟩
theorem Prods.five{Z:Zone}{w:World}(cs:List Value)(p:ProdD)(h:ProdR Z w cs p):∃v0 v1 v2 v3 v4,cs=[v0,v1,v2,v3,v4]:=by
 obtain⟨vc,vp,e,_⟩:=h;exact⟨_,_,_,_,_,e⟩
theorem Comps.form{Z:Zone}{w:World}{v:Value}{l:List CompD}(h:Comps Z w v l):∃A cap,v= .slice A l.length cap∧l.length≤5864062014805∧SeqR (λcs c=>cs=CompD.cells c) 2 Z w l A:=by
 obtain⟨⟨A,cap,e,_,_,h3,hr⟩,_⟩:=h;exact⟨A,cap,e,by omega,hr⟩
theorem ProdR.form{Z:Zone}{w:World}{cs:List Value}{p:ProdD}(h:ProdR Z w cs p):∃vc A cap,cs=[.string p.id,vc,.string p.cur,.int .i64 p.units,.slice A p.parts.length cap]∧Ints Z w vc p.cas∧Comps Z w (.slice A p.parts.length cap) p.parts∧p.fit:=by
 obtain⟨vc,vp,e,h1,h2,h3⟩:=h;obtain⟨A,cap,rfl,_⟩:=h2.form;exact⟨vc,A,cap,e,h1,h2,h3⟩
theorem large1_any(Z:Zone)(p:ProdD)(cs:List Value)(w:World)(h:ProdR Z w cs p):Calls Tryz.prog 53 #[.agg cs.toArray] w λe w'=>e= .returned (.bool (decide (12<p.parts.length)))∧Below w.heap.size w w':=by
 obtain⟨vc,A,cap,rfl,h1,h2,h3⟩:=h.form;have hl:p.parts.length≤5864062014805:=by obtain⟨_,_,e,hl,_⟩:=h2.form;exact hl
 obtain⟨b,hb⟩:∃b,decide ((12:Int)<(p.parts.length:Int))=b:=⟨_,rfl⟩;have e:decide (12<p.parts.length)=b:=by rw[<-hb,Bool.eq_iff_iff,decide_eq_true_eq,decide_eq_true_eq];omega
 rw[e];generalize p.parts.length=n at*;generalize p.id=s0 at*;generalize p.cur=s1 at*;generalize p.units=s2 at*;clear e h h1 h2 h3;go_enter Tryz.func53,Tryz.ntmps53
 go_wp2_with fail
 go_ret;exact⟨rfl,below1 _ _⟩
theorem Tryz.egPL1:∀args w,(callFunc 53 args).run Tryz.prog w= .ok (.enter 53 args) w:=enters_of Tryz.func53 (by kernel_rfl) rfl
theorem plarge_any(Z:Zone)(v:Value)(l:List ProdD)(w:World)(h:Prods Z w v l):Calls Tryz.prog 21 #[v] w λe w'=>e= .returned (.bool (largeP l))∧Below w.heap.size w w':=by
 obtain⟨A,cap,rfl,hl,hs⟩:=h.form
 have HC:=hid (containsFuncProduct_any 53 #[] Tryz.egPL1 (ProdR Z w) Z l (qAt l λp=>decide (12<p.parts.length)) A cap w Prods.five hs (by omega) (λi hi cs hcs W hW=>by
  rw[qAt_get hi]
  exact large1_any Z l[i] cs W (hcs.keep (Keeps.of_below hW))))
 rw[firstIdx_has]at HC;unfold largeP;obtain⟨b1,hb1⟩:∃b,decide ((60:Int)<(l.length:Int))=b:=⟨_,rfl⟩;have e:decide (60<l.length)=b1:=by rw[<-hb1,Bool.eq_iff_iff,decide_eq_true_eq,decide_eq_true_eq];omega
 rw[e];generalize (l.any λp=>decide (12<p.parts.length))=b2 at*;generalize l.length=n at*;clear e h hs;go_enter Tryz.func21,Tryz.ntmps21
 cases b1
 ·go_wp2_with fail
  refine HC.out.mono ?_;rintro e w1 ⟨rfl,hb⟩;go_wp2_with fail
  go_ret;exact⟨rfl,hb⟩
 ·go_wp2_with fail
  go_ret;exact⟨rfl,Below.refl _ _⟩
theorem odd1_any(c:CompD)(cs:List Value)(w:World)(h:cs=CompD.cells c):Calls Tryz.prog 57 #[.agg cs.toArray] w λe w'=>e= .returned (.bool (!cntOk c))∧Below w.heap.size w w':=by
 subst h;unfold CompD.cells cntOk;obtain⟨s,n⟩:=c;dsimp only;obtain⟨b1,h1⟩:∃b,decide (n<1)=b:=⟨_,rfl⟩;obtain⟨b2,h2⟩:∃b,decide (1000<n)=b:=⟨_,rfl⟩
 have e:(!decide (1≤n∧n≤1000))=(b1||b2):=by
  rw[<-h1,<-h2,Bool.eq_iff_iff];first|(simp;done)|(simp;omega)
 rw[e];clear e;cases b1
 ·go_enter Tryz.func57,Tryz.ntmps57
  go_wp2_with fail
  go_ret;exact⟨rfl,below1 _ _⟩
 ·go_enter Tryz.func57,Tryz.ntmps57
  go_wp2_with fail
  go_ret;exact⟨rfl,below1 _ _⟩
theorem Tryz.egPO1:∀args w,(callFunc 57 args).run Tryz.prog w= .ok (.enter 57 args) w:=enters_of Tryz.func57 (by kernel_rfl) rfl
theorem odd_any(Z:Zone)(p:ProdD)(cs:List Value)(w:World)(h:ProdR Z w cs p):Calls Tryz.prog 23 #[.agg cs.toArray] w λe w'=>e= .returned (.bool (oddP p))∧Below w.heap.size w w':=by
 obtain⟨vc,A,cap,rfl,h1,h2,h3⟩:=h.form;have HI:=hid (λW=>pidentifier_any p.id W h3.1);obtain⟨A',cap',e',hl,hs⟩:=h2.form;injection e' with e1 e2 e3;subst e1 e3
 have HC:=hid (λW(hW:Below w.heap.size w W)=>containsFuncComponent_any 57 #[] Tryz.egPO1 (λcs c=>cs=CompD.cells c) Z p.parts (qAt p.parts λc=> !cntOk c) A cap W (λcs x h=>⟨_,_,h⟩)
  (hs.imp (λ_ _ h=>h) (Keeps.of_below hW) (λ_ h=>h)) (by omega) (λi hi cs hcs W' hW'=>by
   rw[qAt_get hi]
   exact odd1_any p.parts[i] cs W' hcs))
 simp only[firstIdx_has]at HC;unfold oddP;generalize (p.parts.any λc=> !cntOk c)=b2 at*;generalize identS p.id=b1 at*;generalize p.parts.length=n at*;generalize p.id=s0 at*;generalize p.cur=s1 at*;generalize p.units=s2 at*;have bk:=Blk.new w 42 #[.string s0,vc,.string s1,.int .i64 s2,.slice A n cap];have hB0:=below1 w (.cells #[.string s0,vc,.string s1,.int .i64 s2,.slice A n cap] 42);clear h h1 h2 h3 hs e2;go_enter Tryz.func23,Tryz.ntmps23
 go_wp2_with fail
 generalize w.alloc (.cells #[.string s0,vc,.string s1,.int .i64 s2,.slice A n cap] 42)=w0 at*;refine(HI.out _).mono ?_;rintro e w1 ⟨rfl,hb1⟩;have hB1:=HBEL_trans hB0 hb1;have bk1:=bk.below hb1 bk.lt;have c4:w1.cell? ⟨w.heap.size,4,none⟩=some (.slice A n cap):=bk1.at4;have bl:=bk1.lt;clear bk bk1 hb1 hB0 HI;cases b1
 ·go_wp2_with fail
  go_ret;exact⟨rfl,hB1⟩
 ·go_wp2_with fail
  refine(HC.out _ hB1).mono ?_;rintro e w2 ⟨rfl,hb2⟩;go_wp2_with fail
  go_ret;exact⟨rfl,HBEL_trans hB1 hb2⟩
theorem Tryz.egOdd:∀args w,(callFunc 23 args).run Tryz.prog w= .ok (.enter 23 args) w:=enters_of Tryz.func23 (by kernel_rfl) rfl
theorem anyOdd_any(Z:Zone)(A:Option Addr)(cap:Nat)(l:List ProdD)(w:World)(h:Prods Z w (.slice A l.length cap) l):Calls Tryz.prog 38 #[.slice A l.length cap,.func (.func 23) #[] #[]] w λe w'=>e= .returned (.bool (l.any oddP))∧Below w.heap.size w w':=by
 obtain⟨A',cap',e',hl,hs⟩:=h.form;injection e' with e1 e2 e3;subst e1 e3
 have:=containsFuncProduct_any 23 #[] Tryz.egOdd (ProdR Z w) Z l (qAt l oddP) A cap w Prods.five hs (by omega) (λi hi cs hcs W hW=>by
  rw[qAt_get hi]
  exact odd_any Z l[i] cs W (hcs.keep (Keeps.of_below hW)))
 rwa[firstIdx_has]at this
section
open Go.Shelf
theorem has_any(base:Nat)(v:Value)(out:List ByteArray)(x:ByteArray)(w:World)(h:w.ownsRow base 9 1 v out.length (out.map .string))(hl:out.length≤1000000):
  Calls Tryz.prog 43 #[v,.string x] w λe w'=>e= .returned (.bool (decide (x∈out)))∧w'=w:=by
 obtain⟨A,cap,rfl,hcap,hmax,hrow⟩:=Row.of_own h (by decide)
 cases out with
 |nil=>
  refine(Tryz.slices_Contains_string_empty A cap x w).mono ?_;rintro e w' ⟨rfl,rfl⟩;exact⟨by simp,rfl⟩
 |cons a r=>
  obtain⟨b,off,rfl,-,hc⟩:=hrow (by simp)
  have:=Tryz.slices_Contains_string b off (a::r).length cap (a::r) x w (Nat.le_refl _) (by omega) (λj hj=>by
   rw[hc j (.string ((a::r)[j])) (by rw[List.getElem?_map,List.getElem?_eq_getElem hj];rfl)];rw[List.getD_eq_getElem?_getD,List.getElem?_eq_getElem hj]
   rfl)
  refine this.mono ?_;rintro e w' ⟨rfl,rfl⟩;refine⟨?_,rfl⟩;congr 2;rw[Bool.eq_iff_iff,Lib.containsS_iff,List.take_length,decide_eq_true_eq]
theorem ord1_any(B M:Nat)(kv:List (ByteArray × Value))(names:List ByteArray)(c:CompD)(cs:List Value)(w:World)(hc:cs=CompD.cells c)(hB:Blk w B 89 #[.map (some M)])(hM:MapIs encS w M kv)(hs:SeenNames kv names):
  Calls Tryz.prog 40 #[.agg cs.toArray,.pointer (some ⟨B,0,none⟩)] w λe w'=>e= .returned (.bool (!decide (c.prod∈names)))∧Below w.heap.size w w':=by
 subst hc;obtain⟨s,n⟩:=c;unfold CompD.cells;dsimp only;obtain⟨sb,hsb,hsb2⟩:=hs.look s
 have hlook:∀o,(Instr.lookup 89 (.map (some M)) (.string s) false).run Tryz.prog (w.alloc o)= .ok (.bool sb) (w.alloc o):=λo=>by
  have:=MapIs.look (w:=w.alloc o) (hM.of_block (Below.heap_alloc _ _ _ hM.lt)) (keyOk_string (P:=Tryz.prog) (k:=9) Tryz.underlying9) (t:=89) (e:=4) Tryz.underlying89 (Tryz.zero4 _) s false;simpa[encS,hsb]using this
 have e:decide (s∈names)=sb:=by
  by_cases h:s∈names
  ·rw[hsb2.2 h];exact decide_eq_true h
  ·cases sb with
   |false=>exact decide_eq_false h
   |true=>exact absurd (hsb2.1 rfl) h
 rw[e];have b0:=hB.at0;have bl:=hB.lt;clear hM hs hsb hsb2 e hB;go_enter Tryz.func40,Tryz.ntmps40
 go_wp2_with fail
 go_ret;exact⟨rfl,below1 _ _⟩
theorem ord21_any(O:Nat)(base:Nat)(v:Value)(out:List ByteArray)(c:CompD)(cs:List Value)(w:World)(hc:cs=CompD.cells c)(hO:Blk w O 61 #[v])(h:w.ownsRow base 9 1 v out.length (out.map .string))(hl:out.length≤1000000):
  Calls Tryz.prog 44 #[.agg cs.toArray,.pointer (some ⟨O,0,none⟩)] w λe w'=>e= .returned (.bool (!decide (c.prod∈out)))∧Below w.heap.size w w':=by
 subst hc;obtain⟨s,n⟩:=c;unfold CompD.cells;dsimp only;have HC:=hid (λW(hW:Below w.heap.size w W)=>has_any base v out s W (own_keep (Z:=λ_=>True) h (.of_below hW) (λ_ _=>trivial)) hl);generalize decide (s∈out)=sb at*;obtain⟨A,cap,rfl,-⟩:=Row.of_own h (by decide);have b0:=hO.at0;have bl:=hO.lt;clear hO h;go_enter Tryz.func44,Tryz.ntmps44
 go_wp2_with fail
 refine(HC.out _ (below1 _ _)).mono ?_;rintro e w1 ⟨rfl,rfl⟩;go_wp2;go_ret;exact⟨rfl,below1 _ _⟩
theorem Tryz.egO21:∀args w,(callFunc 44 args).run Tryz.prog w= .ok (.enter 44 args) w:=enters_of Tryz.func44 (by kernel_rfl) rfl
theorem all_not{α:Type}(l:List α)(q:α->Bool):(!l.any λx=> !q x)=l.all q:=by
 rw[Bool.eq_iff_iff];simp
theorem partsAll(p:ProdD)(q:ByteArray->Bool):(p.parts.all λc=>q c.prod)=(partsOf p).all q:=by unfold partsOf;rw[List.all_map];rfl
theorem ord2_any(Z:Zone)(O base:Nat)(v:Value)(out:List ByteArray)(p:ProdD)(cs:List Value)(w:World)(hp:ProdR Z w cs p)(hO:Blk w O 61 #[v])(h:w.ownsRow base 9 1 v out.length (out.map .string))(hl:out.length≤1000000):
  Calls Tryz.prog 42 #[.agg cs.toArray,.pointer (some ⟨O,0,none⟩)] w λe w'=>e= .returned (.bool (readyP out p))∧Below w.heap.size w w':=by
 obtain⟨vc,A,cap,rfl,h1,h2,h3⟩:=hp.form;have HI:=hid (λW(hW:Below w.heap.size w W)=>has_any base v out p.id W (own_keep (Z:=λ_=>True) h (.of_below hW) (λ_ _=>trivial)) hl);obtain⟨A',cap',e',hlp,hs⟩:=h2.form;injection e' with e1 e2 e3;subst e1 e3
 have HC:=hid (λW(hW:Below w.heap.size w W)=>containsFuncComponent_any 44 #[.pointer (some ⟨O,0,none⟩)] Tryz.egO21 (λcs c=>cs=CompD.cells c) Z p.parts (qAt p.parts λc=> !decide (c.prod∈out)) A cap W (λcs x h=>⟨_,_,h⟩)
  (hs.imp (λ_ _ h=>h) (Keeps.of_below hW) (λ_ h=>h)) (by omega) (λi hi cs hcs W' hW'=>by
   rw[qAt_get hi];have hWW:=HBEL_trans hW hW'
   exact ord21_any O base v out p.parts[i] cs W' hcs (hO.below hWW hO.lt) (own_keep (Z:=λ_=>True) h (.of_below hWW) (λ_ _=>trivial)) hl))
 simp only[firstIdx_has]at HC
 have eR:readyP out p=(!decide (p.id∈out)&& !(p.parts.any λc=> !decide (c.prod∈out))):=by
  unfold readyP;rw[all_not,partsAll p (λx=>decide (x∈out)),decide_not]
 rw[eR];generalize (p.parts.any λc=> !decide (c.prod∈out))=b2 at*;generalize decide (p.id∈out)=b1 at*;generalize p.parts.length=n at*;generalize p.id=s0 at*;generalize p.cur=s1 at*;generalize p.units=s2 at*;obtain⟨OA,ocap,rfl,-⟩:=Row.of_own h (by decide);have bk:=Blk.new w 42 #[.string s0,vc,.string s1,.int .i64 s2,.slice A n cap];have hB0:=below1 w (.cells #[.string s0,vc,.string s1,.int .i64 s2,.slice A n cap] 42);have b0:=hO.at0;have bl:=hO.lt;clear hp h1 h2 h3 hs e2 eR h hO;go_enter Tryz.func42,Tryz.ntmps42
 go_wp2_with fail
 generalize w.alloc (.cells #[.string s0,vc,.string s1,.int .i64 s2,.slice A n cap] 42)=w0 at*;refine(HI.out _ hB0).mono ?_;rintro e w1 ⟨rfl,hw1⟩;subst hw1;have c4:w1.cell? ⟨w.heap.size,4,none⟩=some (.slice A n cap):=bk.at4;have bkl:=bk.lt;clear bk HI;cases b1
 ·go_wp2_with fail
  refine(HC.out _ hB0).mono ?_;rintro e w2 ⟨rfl,hb2⟩;go_wp2_with fail
  go_ret;exact⟨rfl,HBEL_trans hB0 hb2⟩
 ·go_wp2_with fail
  go_ret;exact⟨rfl,hB0⟩
end
section
open Go.Shelf
def onceTo(l:List ProdD)(k:Nat):Prop:=(idsP (l.take k)).Nodup ∧∀p∈l.take k,(partsOf p).Nodup
theorem idsP_take(l:List ProdD){k:Nat}(hk:k<l.length):idsP (l.take (k+1))=idsP (l.take k)++[l[k].id]:=by unfold idsP;rw[take_succ_get hk,List.map_append];rfl
theorem partsOf_take(p:ProdD){j:Nat}(hj:j<p.parts.length):(partsOf p).take (j+1)=(partsOf p).take j++[p.parts[j].prod]:=by
 have h:j<(partsOf p).length :=by unfold partsOf;rw[List.length_map];exact hj
 rw[take_succ_get h];congr 2;simp[partsOf]
theorem Tryz.egO1:∀args w,(callFunc 40 args).run Tryz.prog w= .ok (.enter 40 args) w:=enters_of Tryz.func40 (by kernel_rfl) rfl
theorem Tryz.egO2:∀args w,(callFunc 42 args).run Tryz.prog w= .ok (.enter 42 args) w:=enters_of Tryz.func42 (by kernel_rfl) rfl
theorem bnot1{a b:Bool}:false= !a->(!b)= !(a&&b):=by cases a<;>cases b<;>decide
theorem bnot2{a b:Bool}:true= !a->true= !(a&&b):=by cases a<;>cases b<;>decide
theorem nodup_snoc{α:Type}{l:List α}{x:α}(h:l.Nodup)(hx:x∉l):(l++[x]).Nodup :=by
 rw[List.nodup_append];refine⟨h,by simp,λa ha b hb e=> ?_⟩;rw[List.mem_singleton.1 hb]at e;exact hx (by rw[<-e];exact ha)
theorem onceTo_succ{l:List ProdD}{k:Nat}(h:onceTo l k)(hk:k<l.length)(h1:l[k].id ∉idsP (l.take k))(h2:(partsOf l[k]).Nodup):onceTo l (k+1):=by
 refine⟨by rw[idsP_take l hk];exact nodup_snoc h.1 h1,λp hp=> ?_⟩;rw[take_succ_get hk]at hp;rcases List.mem_append.1 hp with hp|hp
 ·exact h.2 p hp
 ·rw[List.mem_singleton.1 hp];exact h2
theorem once_split{l:List ProdD}(h:onceP l=true):(idsP l).Nodup ∧∀p∈l,(partsOf p).Nodup :=by
 unfold onceP at h;simp only[Bool.and_eq_true,decide_eq_true_eq,List.all_eq_true]at h;exact h
theorem once_id{l:List ProdD}{k:Nat}(hk:k<l.length)(h:l[k].id ∈idsP (l.take k)):onceP l=false:=by
 rw[Bool.eq_false_iff];intro ho;have h1:=(once_split ho).1;have e:idsP l=idsP (l.take k)++idsP (l.drop k):=by unfold idsP;rw[<-List.map_append,List.take_append_drop]
 rw[e,List.nodup_append]at h1;refine h1.2.2 _ h _ ?_ rfl;rw[List.drop_eq_getElem_cons hk];exact List.mem_cons_self ..
theorem once_part{l:List ProdD}{k j:Nat}(hk:k<l.length)(hj:j<l[k].parts.length)(h:l[k].parts[j].prod ∈(partsOf l[k]).take j):onceP l=false:=by
 rw[Bool.eq_false_iff];intro ho;have h1:=(once_split ho).2 _ (List.getElem_mem hk);have hj':j<(partsOf l[k]).length :=by unfold partsOf;rw[List.length_map];exact hj
 have e:partsOf l[k]=(partsOf l[k]).take j++(partsOf l[k]).drop j:=(List.take_append_drop j _).symm;rw[e,List.nodup_append]at h1;refine h1.2.2 _ h _ ?_ rfl;rw[List.drop_eq_getElem_cons hj'];have e2:(partsOf l[k])[j]=l[k].parts[j].prod :=by simp[partsOf]
 rw[e2];exact List.mem_cons_self ..
theorem once_all{l:List ProdD}(h:onceTo l l.length):onceP l=true:=by
 unfold onceTo at h;rw[List.take_length]at h;unfold onceP;simp only[Bool.and_eq_true,decide_eq_true_eq,List.all_eq_true];exact h
theorem comp_cells{w:World}{b o:Nat}{c:CompD}(hc:∀j u,(CompD.cells c)[j]? =some u->w.cell? ⟨b,o+j,none⟩=some u):w.cell? ⟨b,o,none⟩=some (.string c.prod)∧w.cell? ⟨b,o+1,none⟩=some (.int .i64 c.cnt):=⟨hc 0 _ rfl,hc 1 _ rfl⟩
theorem ProdR.form2{Z:Zone}{w:World}{cs:List Value}{p:ProdD}(h:ProdR Z w cs p):∃CA ccap A cap,cs=[.string p.id,.slice CA p.cas.length ccap,.string p.cur,.int .i64 p.units,.slice A p.parts.length cap]∧Ints Z w (.slice CA p.cas.length ccap) p.cas∧Comps Z w (.slice A p.parts.length cap) p.parts∧p.fit:=by
 obtain⟨vc,A,cap,e,h1,h2,h3⟩:=h.form;obtain⟨⟨CA,ccap,rfl,_⟩,_⟩:=id h1;exact⟨CA,ccap,A,cap,e,h1,h2,h3⟩
theorem ordGo_none{l:List ProdD}{n:Nat}{out:List ByteArray}(h:¬l.findIdx (readyP out)<l.length):ordGo l (n+1) out=none:=by
 have e:l.find? (readyP out)=none:=by
  rw[List.find?_eq_none];intro p hp hq;exact h (List.findIdx_lt_length.2 ⟨p,hp,hq⟩)
 unfold ordGo;rw[e]
theorem ordGo_next{l:List ProdD}{n:Nat}{out:List ByteArray}(h:l.findIdx (readyP out)<l.length):ordGo l (n+1) out=ordGo l n (out++[l[l.findIdx (readyP out)].id]):=by
 have e:l.find? (readyP out)=some l[l.findIdx (readyP out)]:=by
  rw[List.find?_eq_some_iff_getElem];refine⟨List.findIdx_getElem (w:=h),_,h,rfl,λj hj=> ?_⟩;have:=List.not_of_lt_findIdx hj;simpa using this
 rw[ordGo,e]
def OrdPost(l:List ProdD)(w:World):Ending->World->Prop:=λe w'=>∃v,e= .returned (.tuple #[v,.int .i64 (orderP l).2])∧w'.ownsRow w.heap.size 9 1 v (orderP l).1.length ((orderP l).1.map .string)∧Below w.heap.size w w'
theorem ordPost_no{l:List ProdD}{w w':World}{e:Int}(h:orderP l=([],e))(hb:Below w.heap.size w w'):OrdPost l w (.returned (.tuple #[.slice none 0 0,.int .i64 e])) w':=
 ⟨_,by rw[h],by rw[h];exact World.ownsRow_nil _ _ _ _,hb⟩
theorem order_any(Z:Zone)(v:Value)(l:List ProdD)(w:World)(h:Prods Z w v l)(hz:∀b,Z b->b<w.heap.size):Calls Tryz.prog 15 #[v] w (OrdPost l w):=by
 obtain⟨A,cap,rfl,hll,hs⟩:=h.form;have hmm:= @run_makeMap Tryz.prog;have HLG:=hid (λW(hW:Below w.heap.size w W)=>plarge_any Z _ l W (h.keep (Keeps.of_below hW)));have HOD:=hid (λW(hW:Below w.heap.size w W)=>anyOdd_any Z A cap l W (h.keep (Keeps.of_below hW)));have HS:=hid (And.intro hs hz);have HP1:=hid (λ(hb:largeP l=true)=>(show orderP l=([],2) from by unfold orderP;rw[if_pos hb]));have HP2:=hid (λ(h1:largeP l=false)(hb:l.any oddP=true)=>(show orderP l=([],1) from by unfold orderP;rw[if_neg (by rw[h1];decide),if_pos hb]));have HP3:=hid (λ(h1:largeP l=false)(h2:l.any oddP=false)(h3:onceP l=false)=>(show orderP l=([],9) from by unfold orderP;rw[if_neg (by rw[h1];decide),if_neg (by rw[h2];decide),if_pos h3]));have HP4:=hid (λ(h1:largeP l=false)(h2:l.any oddP=false)(h3:onceP l=true)(h4:knownP l=false)=>(show orderP l=([],7) from by unfold orderP;rw[if_neg (by rw[h1];decide),if_neg (by rw[h2];decide),if_neg (by rw[h3];decide),if_pos h4]));have HP5:=hid (λ(h1:largeP l=false)(h2:l.any oddP=false)(h3:onceP l=true)(h4:knownP l=true)=>(show orderP l=(match ordGo l l.length []with|none=>([],13)|some o=>(o,0)) from by unfold orderP;rw[if_neg (by rw[h1];decide),if_neg (by rw[h2];decide),if_neg (by rw[h3];decide),if_neg (by rw[h4];decide)];rfl));obtain⟨b1,hb1⟩:∃b,b=largeP l:=⟨_,rfl⟩;obtain⟨b2,hb2⟩:∃b,b=l.any oddP:=⟨_,rfl⟩;rw[<-hb1]at HLG;rw[<-hb2]at HOD;have HB1:=hid hb1;have HB2:=hid hb2;clear h hs hz hb1 hb2;go_enter Tryz.func15,Tryz.ntmps15
 go_wp2_with fail
 refine(HLG.out _ (Below.refl _ _)).mono ?_;rintro e w1 ⟨rfl,hbel1⟩;cases b1
 ·go_wp2_with fail
  refine(HOD.out _ hbel1).mono ?_;rintro e w2 ⟨rfl,hb2⟩;have hbel2:=HBEL_trans hbel1 hb2;clear hb2 hbel1 HLG HOD;cases b2
  ·(go_upto_region 7 with fail);have hB3:Below w.heap.size w ((w2.alloc (.map #[] 0)).alloc (.cells #[.map (some w2.heap.size)] 89)):=(hbel2.alloc hbel2.size _).alloc (by have:=hbel2.size;simp;omega) _;have hmp:=(MapIs.made w2 encS).of_block (Below.heap_alloc (w2.alloc (.map #[] 0)) (.cells #[.map (some w2.heap.size)] 89) _ (by simp));have hbk:=Blk.new (w2.alloc (.map #[] 0)) 89 #[.map (some w2.heap.size)];rw[World.size_alloc]at hbk;obtain⟨M,hM⟩:∃M,M=w2.heap.size:=⟨_,rfl⟩;(have hMw:w.heap.size≤M:=by rw[hM];exact hbel2.size);rw[<-hM]at hmp hbk hB3⊢;generalize (w2.alloc (.map #[] 0)).alloc (.cells #[.map (some M)] 89)=w3 at*;clear hM hbel2;go_wp2;go_loopw[22] (λi wr=>∃(k:Nat)(kv:List (ByteArray × Value)),k≤l.length∧i= .int .i64 k∧MapIs encS wr M kv∧Blk wr (M+1) 89 #[.map (some M)]∧Below w.heap.size w wr∧Hid (onceTo l k)∧Hid (SeenNames kv (idsP (l.take k)))) (λi _=>l.length-(intOf i).toNat);case atStart=>exact⟨0,[],Nat.zero_le _,rfl,hmp,hbk,hB3,hid ⟨by simp[idsP],by simp⟩,hid (λx=>⟨λh=>by simp[idsP]at h,λ_=>rfl⟩)⟩
   case round=>
    obtain⟨k,kv,hk,rfl,hmap,hblk,hbel,hto,hseen⟩:=hrel;clear hmp hbk hB3;by_cases hlt:k<l.length
    ·obtain⟨b,off,cs,rfl,hzb,hc,hR⟩:=HS.out.1.at_ hlt;have hbs:=HS.out.2 b hzb;obtain⟨CA,ccap,PA,pcap,rfl,hcas,hcomp,hfit⟩:=hR.form2;have hcb:=cells_below hbel hbs hc;have c0:wr.cell? ⟨b,off+k*5,none⟩=_:=hcb 0 _ rfl;have c1:wr.cell? ⟨b,off+k*5+1,none⟩=_:=hcb 1 _ rfl;have c2:wr.cell? ⟨b,off+k*5+2,none⟩=_:=hcb 2 _ rfl;have c3:wr.cell? ⟨b,off+k*5+3,none⟩=_:=hcb 3 _ rfl;have c4:wr.cell? ⟨b,off+k*5+4,none⟩=_:=hcb 4 _ rfl;have HON:=hid (λ(h:l[k].id ∈idsP (l.take k))=>HP3.out HB1.out.symm HB2.out.symm (once_id hlt h));have HOP:=hid (λ(j:Nat)(hj:j<l[k].parts.length)(h:l[k].parts[j].prod ∈(partsOf l[k]).take j)=>HP3.out HB1.out.symm HB2.out.symm (once_part hlt hj h));have HNX:=hid (λh1 h2=>onceTo_succ hto.out hlt h1 h2);have HTK:=hid (idsP_take l hlt);have HCP:=hid hcomp;have HPT:=hid (λ(j:Nat)(hj:j<l[k].parts.length)=>partsOf_take l[k] hj);have HPL:=hid (show(partsOf l[k]).length =l[k].parts.length from by unfold partsOf;rw[List.length_map]);(have hpl:l[k].parts.length ≤5864062014805:=by obtain⟨_,_,_,hp,_⟩:=hcomp.form;exact hp);obtain⟨sb,hsb,hsb2⟩:=hseen.out.look l[k].id;have HSB:=hid hsb2;have HSEEN:=hid hseen.out;(have hk1:((k:Nat):Int)<(l.length:Int):=by omega);(have hk0:(0:Int)≤((k:Nat):Int):=by omega);clear hc hcb hsb2 hto hR hcas hcomp hfit;generalize l[k]=p at*
     have hlook:∀o,(Instr.lookup 89 (.map (some M)) (.string p.id) false).run Tryz.prog (wr.alloc o)= .ok (.bool sb) (wr.alloc o):=λo=>by
      have:=MapIs.look (w:=wr.alloc o) (hmap.of_block (Below.heap_alloc _ _ _ hmap.lt)) (keyOk_string (P:=Tryz.prog) (k:=9) Tryz.underlying9) (t:=89) (e:=4) Tryz.underlying89 (Tryz.zero4 _) p.id false;simpa[encS,hsb]using this
     have hmap1:=hmap.of_block (Below.heap_alloc wr (.cells #[.string p.id,.slice CA p.cas.length ccap,.string p.cur,.int .i64 p.units,.slice PA p.parts.length pcap] 42) _ hmap.lt);have hblk1:=hblk.alloc (.cells #[.string p.id,.slice CA p.cas.length ccap,.string p.cur,.int .i64 p.units,.slice PA p.parts.length pcap] 42);have hX:=Blk.new wr 42 #[.string p.id,.slice CA p.cas.length ccap,.string p.cur,.int .i64 p.units,.slice PA p.parts.length pcap];have hB1:Below w.heap.size w (wr.alloc (.cells #[.string p.id,.slice CA p.cas.length ccap,.string p.cur,.int .i64 p.units,.slice PA p.parts.length pcap] 42)):=hbel.alloc hbel.size _;have hlk1:=hlook (.cells #[.string p.id,.slice CA p.cas.length ccap,.string p.cur,.int .i64 p.units,.slice PA p.parts.length pcap] 42);obtain⟨XB,hXB⟩:∃XB,XB=wr.heap.size:=⟨_,rfl⟩;(have hXM:M+1<XB:=by rw[hXB];exact hblk.lt);(have hXw:w.heap.size≤XB:=by rw[hXB];exact hbel.size);rw[<-hXB]at hX;(go_upto_region 10 with fail);rw[<-hXB];clear hlook hmap hblk hbel hXB c0 c1 c2 c3 c4 hsb;generalize wr.alloc (.cells #[.string p.id,.slice CA p.cas.length ccap,.string p.cur,.int .i64 p.units,.slice PA p.parts.length pcap] 42)=w4 at*;have k0:=hblk1.at0;have kl:=hblk1.lt;have x0:=hX.at0;have x4:w4.cell? ⟨XB,4,none⟩=some (.slice PA p.parts.length pcap):=hX.at4;have xl:=hX.lt;cases sb
     ·have HMM:=hid hmap1;have hmm2:=hmm;clear hmap1;go_wp2_with(at_mapUpdate;refine wpList_mapStore rfl (.tmp 30) (.tmp 32) _ rfl (keyOk_string (P:=Tryz.prog) (k:=9) Tryz.underlying9) (e:=4) Tryz.underlying89 rfl HMM.out p.id rfl ?_;intro w5 hm5 hk5 hsz5 hce5 hfr5;have k0:=(hce5 ⟨M+1,0,none⟩).trans k0;have x4:=(hce5 ⟨XB,4,none⟩).trans x4;have x0:=(hce5 ⟨XB,0,none⟩).trans x0;have xl:XB<w5.heap.size:=by omega);have hB5:Below w.heap.size w w5:=below_keeps_ne hB1 hk5 hMw hB1.size;have hblk5:=hblk1.keep hk5 (by show M+1≠M;omega);have hm5:MapIs encS w5 M (kvSet kv p.id (.bool true)):=hm5;have hm6:=hm5.of_block (Below.heap_alloc w5 (.map #[] 0) _ hm5.lt);have hblk6:=hblk5.alloc (.map #[] 0);have hB6:Below w.heap.size w (w5.alloc (.map #[] 0)):=hB5.alloc hB5.size _;have hS6:=MapIs.made w5 encS;obtain⟨SB,hSB⟩:∃SB,SB=w4.heap.size:=⟨_,rfl⟩;(have hSM:M+1<SB:=by rw[hSB];exact hblk1.lt);rw[hsz5]at hS6;rw[<-hSB]at hS6⊢;generalize w5.alloc (.map #[] 0)=w6 at*;have HSN:=hid (SeenNames.add (show SeenNames kv (idsP (l.take k)) from HSEEN.out) p.id);obtain⟨PA',pcap',e',hpl',hps⟩:=HCP.out.form;injection e' with e1 e2 e3;subst e1 e3;have HPS:=hid hps;clear hB5 hblk5 hm5 hk5 hsz5 hce5 hfr5 hSB hblk1 hB1 k0 x0 x4 kl xl hX HMM hps e2 hpl' hlk1 HON;generalize kvSet kv p.id (.bool true)=kv1 at*;go_loopw[37] (λi wr=>∃(j:Nat)(kv2:List (ByteArray × Value)),j≤p.parts.length∧i= .int .i64 j∧MapIs encS wr SB kv2∧MapIs encS wr M kv1∧Blk wr (M+1) 89 #[.map (some M)]∧Below w.heap.size w wr∧Hid (((partsOf p).take j).Nodup)∧Hid (SeenNames kv2 ((partsOf p).take j))) (λi _=>p.parts.length-(intOf i).toNat);case atStart=>exact⟨0,[],Nat.zero_le _,rfl,hS6,hm6,hblk6,hB6,hid (by simp),hid (λx=>⟨λh=>by simp at h,λ_=>rfl⟩)⟩
      case round=>
       obtain⟨j,kv2,hj,rfl,hsm,hkm,hblk,hbel,hnd,hsn⟩:=hrel;clear hS6 hm6 hblk6 hB6;by_cases hjl:j<p.parts.length
       ·obtain⟨pb,poff,pcs,rfl,hzp,hpc,hpe⟩:=HPS.out.at_ hjl;have hpbs:=HS.out.2 pb hzp;subst hpe;obtain⟨d0,d1⟩:=comp_cells (cells_below hbel hpbs hpc);have HPJ:=hid (λh=>HOP.out j hjl h);have HTJ:=hid (HPT.out j hjl);(have hj1:((j:Nat):Int)<(p.parts.length:Int):=by omega);(have hj0:(0:Int)≤((j:Nat):Int):=by omega);clear hpc;generalize p.parts[j]=c at*;obtain⟨cp,cn⟩:=c;simp only at d0 d1;obtain⟨sc,hsc,hsc2⟩:=hsn.out.look cp;have HSC:=hid hsc2
        have hlk2:∀o,(Instr.lookup 89 (.map (some SB)) (.string cp) false).run Tryz.prog (wr.alloc o)= .ok (.bool sc) (wr.alloc o):=λo=>by
         have:=MapIs.look (w:=wr.alloc o) (hsm.of_block (Below.heap_alloc _ _ _ hsm.lt)) (keyOk_string (P:=Tryz.prog) (k:=9) Tryz.underlying9) (t:=89) (e:=4) Tryz.underlying89 (Tryz.zero4 _) cp false;simpa[encS,hsc]using this
        have hY:=Blk.new wr 51 #[.string cp,.int .i64 cn];have hB2:Below w.heap.size w (wr.alloc (.cells #[.string cp,.int .i64 cn] 51)):=hbel.alloc hbel.size _;have hsm1:=hsm.of_block (Below.heap_alloc wr (.cells #[.string cp,.int .i64 cn] 51) _ hsm.lt);have hkm1:=hkm.of_block (Below.heap_alloc wr (.cells #[.string cp,.int .i64 cn] 51) _ hkm.lt);have hblk2:=hblk.alloc (.cells #[.string cp,.int .i64 cn] 51);have hlk3:=hlk2 (.cells #[.string cp,.int .i64 cn] 51);obtain⟨YB,hYB⟩:∃YB,YB=wr.heap.size:=⟨_,rfl⟩;rw[<-hYB]at hY;(have hYS:SB<YB:=by rw[hYB];exact hsm.lt);(go_upto_region 17 with fail);rw[<-hYB];clear hYB hlk2 hsm hkm hblk hbel hsc hsc2 d0 d1;generalize wr.alloc (.cells #[.string cp,.int .i64 cn] 51)=w7 at*;have y0:=hY.at0;have yl:=hY.lt;cases sc
        ·have HKM:=hid (And.intro hkm1 (And.intro hblk2 hB2));clear hkm1 hblk2 hB2 hY;go_wp2_with(at_mapUpdate;refine wpList_mapStore rfl (.tmp 45) (.tmp 47) _ rfl (keyOk_string (P:=Tryz.prog) (k:=9) Tryz.underlying9) (e:=4) Tryz.underlying89 rfl hsm1 cp rfl ?_;intro w8 hm8 hk8 hsz8 hce8 hfr8)
         have HF:=hid (show MapIs encS w8 M kv1∧Blk w8 (M+1) 89 #[.map (some M)]∧Below w.heap.size w w8 from
          ⟨HKM.out.1.of_block (hk8.block M HKM.out.1.lt (by show M≠SB;omega)),HKM.out.2.1.keep hk8 (by show M+1≠SB;omega),below_keeps_ne HKM.out.2.2 hk8 (by omega) HKM.out.2.2.size⟩)
         have HM8:=hid (show MapIs encS w8 SB (kvSet kv2 cp (.bool true)) from hm8);clear hm8 hk8 hsz8 hce8 hfr8 HKM;go_roundw
         case rel=>
          refine⟨j+1,_,by omega,by go_num,HM8.out,HF.out.1,HF.out.2.1,HF.out.2.2,hid ?_,hid ?_⟩
          ·rw[HTJ.out];exact nodup_snoc hnd.out (λh=>by have:=HSC.out.2 h;cases this)
          ·rw[HTJ.out];exact hsn.out.add _
         case measure=>simp[intOf];omega
        ·have HE:=hid (HPJ.out (HSC.out.mp (by first|exact rfl|trivial)));(go_wp2_with fail);go_ret2;exact ordPost_no HE.out hB2
       ·(obtain rfl:j=p.parts.length:=by omega);have HND:=hid (show(partsOf p).Nodup from by have:=hnd.out;rwa[<-HPL.out,List.take_length]at this);have HF:=hid (And.intro hkm (And.intro hblk hbel));clear hsm hkm hblk hbel hnd hsn;go_wp2;go_roundw;(case rel=>exact⟨k+1,kv1,by omega,by go_num,HF.out.1,HF.out.2.1,HF.out.2.2,hid (HNX.out (λh=>by have:=HSB.out.2 h;cases this) HND.out),hid (by rw[HTK.out];exact HSN.out)⟩);case measure=>simp[intOf];omega
     ·have HE:=hid (HON.out (HSB.out.mp (by first|exact rfl|trivial)));(go_wp2_with fail);go_ret2;exact ordPost_no HE.out hB1
    ·(obtain rfl:k=l.length:=by omega);rw[List.take_length]at hseen;have HON1:=hid (once_all hto.out);clear hto;have HMS:=hid (And.intro hmap (And.intro hblk hbel));have HSN:=hid hseen.out
     have HPF:=hid (λ(p:ProdD)(hp:p∈l)(PA:Option Addr)(pcap:Nat)(hcomp:Comps Z w (.slice PA p.parts.length pcap) p.parts) W(hW:Below w.heap.size w W)(hm:MapIs encS W M kv)(hb:Blk W (M+1) 89 #[.map (some M)])=>
      (show Calls Tryz.prog 39 #[.slice PA p.parts.length pcap,.func (.func 40) #[] #[.pointer (some ⟨M+1,0,none⟩)]] W (λe w'=>e= .returned (.bool (p.parts.any λc=> !decide (c.prod∈idsP l)))∧Below W.heap.size W w') from by
       obtain⟨PA',pcap',e',hpl',hps⟩:=hcomp.form;injection e' with e1 e2 e3;subst e1 e3
       have:=containsFuncComponent_any 40 #[.pointer (some ⟨M+1,0,none⟩)] Tryz.egO1 (λcs c=>cs=CompD.cells c) Z p.parts (qAt p.parts λc=> !decide (c.prod∈idsP l)) PA pcap W (λcs x h=>⟨_,_,h⟩)
        (hps.imp (λ_ _ h=>h) (Keeps.of_below hW) (λ_ h=>h)) (by omega) (λi hi cs hcs W' hW'=>by
         rw[qAt_get hi]
         exact ord1_any (M+1) M kv (idsP l) p.parts[i] cs W' hcs (hb.below hW' hb.lt) (hm.of_block (hW'.block M hm.lt)) HSN.out)
       rwa[firstIdx_has]at this))
     clear hmap hblk hbel hseen;go_wp2;go_loopw[5,52] (λmv iv wr=>∃(k:Nat)(mb:Bool),k≤l.length∧iv= .int .i64 k∧mv= .bool mb∧MapIs encS wr M kv∧Blk wr (M+1) 89 #[.map (some M)]∧Below w.heap.size w wr∧Hid (mb= !((l.take k).all λp=>p.parts.all λc=>decide (c.prod∈idsP l)))) (λ_ iv _=>l.length-(intOf iv).toNat);case atStart=>exact⟨0,false,Nat.zero_le _,rfl,rfl,HMS.out.1,HMS.out.2.1,HMS.out.2.2,hid (by simp)⟩
     case round=>
      obtain⟨k,mb,hk,rfl,rfl,hmap,hblk,hbel,hmb⟩:=hrel;clear HMS;by_cases hlt:k<l.length
      ·obtain⟨b,off,cs,rfl,hzb,hc,hR⟩:=HS.out.1.at_ hlt;have hbs:=HS.out.2 b hzb;obtain⟨CA,ccap,PA,pcap,rfl,hcas,hcomp,hfit⟩:=hR.form2;have hcb:=cells_below hbel hbs hc;have c0:wr.cell? ⟨b,off+k*5,none⟩=_:=hcb 0 _ rfl;have c1:wr.cell? ⟨b,off+k*5+1,none⟩=_:=hcb 1 _ rfl;have c2:wr.cell? ⟨b,off+k*5+2,none⟩=_:=hcb 2 _ rfl;have c3:wr.cell? ⟨b,off+k*5+3,none⟩=_:=hcb 3 _ rfl;have c4:wr.cell? ⟨b,off+k*5+4,none⟩=_:=hcb 4 _ rfl;have HCF:=hid (HPF.out l[k] (List.getElem_mem hlt) PA pcap hcomp);have HTK:=hid (show((l.take (k+1)).all λp=>p.parts.all λc=>decide (c.prod∈idsP l))=(((l.take k).all λp=>p.parts.all λc=>decide (c.prod∈idsP l))&&(l[k].parts.all λc=>decide (c.prod∈idsP l))) from by rw[take_succ_get hlt,List.all_append];simp);have HALL:=hid (show(l[k].parts.any λc=> !decide (c.prod∈idsP l))= !(l[k].parts.all λc=>decide (c.prod∈idsP l)) from by rw[<-all_not];simp);(have hk1:((k:Nat):Int)<(l.length:Int):=by omega);(have hk0:(0:Int)≤((k:Nat):Int):=by omega);rw[HALL.out]at HCF;clear hc hcb hR hcas hcomp hfit HALL;generalize (l[k].parts.all λc=>decide (c.prod∈idsP l))=pb at*;generalize ((l.take k).all λp=>p.parts.all λc=>decide (c.prod∈idsP l))=tb at*;generalize l[k]=p at*;have hmap1:=hmap.of_block (Below.heap_alloc wr (.cells #[.string p.id,.slice CA p.cas.length ccap,.string p.cur,.int .i64 p.units,.slice PA p.parts.length pcap] 42) _ hmap.lt);have hblk1:=hblk.alloc (.cells #[.string p.id,.slice CA p.cas.length ccap,.string p.cur,.int .i64 p.units,.slice PA p.parts.length pcap] 42);have hX:=Blk.new wr 42 #[.string p.id,.slice CA p.cas.length ccap,.string p.cur,.int .i64 p.units,.slice PA p.parts.length pcap];have hB1:Below w.heap.size w (wr.alloc (.cells #[.string p.id,.slice CA p.cas.length ccap,.string p.cur,.int .i64 p.units,.slice PA p.parts.length pcap] 42)):=hbel.alloc hbel.size _;obtain⟨XB,hXB⟩:∃XB,XB=wr.heap.size:=⟨_,rfl⟩;rw[<-hXB]at hX;(go_upto_region 25 with fail);rw[<-hXB];clear hmap hblk hbel hXB c0 c1 c2 c3 c4;generalize wr.alloc (.cells #[.string p.id,.slice CA p.cas.length ccap,.string p.cur,.int .i64 p.units,.slice PA p.parts.length pcap] 42)=w4 at*;have x4:w4.cell? ⟨XB,4,none⟩=some (.slice PA p.parts.length pcap):=hX.at4;have xl:=hX.lt;cases mb
       ·have HCG:=hid (HCF.out w4 hB1 hmap1 hblk1);have HF:=hid (And.intro hmap1 (And.intro hblk1 hB1));clear hmap1 hblk1 hB1 HCF hX;(go_wp2_with fail);refine HCG.out.mono ?_;rintro e w5 ⟨rfl,hb5⟩;have HF5:=hid (show MapIs encS w5 M kv∧Blk w5 (M+1) 89 #[.map (some M)]∧Below w.heap.size w w5 from⟨HF.out.1.of_block (hb5.block M HF.out.1.lt),HF.out.2.1.below hb5 HF.out.2.1.lt,HBEL_trans HF.out.2.2 hb5⟩);clear hb5 HF HCG x4 xl;go_wp2;go_roundw;(case rel=>exact⟨k+1,!pb,by omega,by go_num,rfl,HF5.out.1,HF5.out.2.1,HF5.out.2.2,hid (by rw[HTK.out];exact bnot1 hmb.out)⟩);case measure=>simp[intOf];omega
       ·have HF:=hid (And.intro hmap1 (And.intro hblk1 hB1));clear hmap1 hblk1 hB1 HCF hX;go_wp2;go_roundw;(case rel=>exact⟨k+1,true,by omega,by go_num,rfl,HF.out.1,HF.out.2.1,HF.out.2.2,hid (by rw[HTK.out];exact bnot2 hmb.out)⟩);case measure=>simp[intOf];omega
      ·(obtain rfl:k=l.length:=by omega);rw[List.take_length]at hmb
       have HKN:=hid (show knownP l= !mb from by
        rw[hmb.out];unfold knownP;simp only[Bool.not_not];congr 1;funext p
        exact(partsAll p (λc=>decide (c∈idsP l))).symm)
       have HBE:=hid hbel;clear hmb hmap hblk hbel HPF;cases mb
       ·have HP5':=hid (HP5.out HB1.out.symm HB2.out.symm HON1.out HKN.out)
        have hll60:l.length≤60:=by
         have:=HB1.out;unfold largeP at this;have:=this.symm;simp only[Bool.or_eq_false_iff,decide_eq_false_iff_not]at this;omega
        have HLP:=hid hll60;have hO:=Blk.new wr 61 #[.slice none 0 0];have hBO:Below w.heap.size w (wr.alloc (.cells #[.slice none 0 0] 61)):=HBE.out.alloc HBE.out.size _;obtain⟨O,hOO⟩:∃O,O=wr.heap.size:=⟨_,rfl⟩;(have hOw:w.heap.size≤O:=by rw[hOO];exact HBE.out.size);rw[<-hOO]at hO;go_wp2;rw[<-hOO];clear hOO HBE;generalize wr.alloc (.cells #[.slice none 0 0] 61)=w1o at*
        have HCL:=hid (λ(out:List ByteArray)(v:Value) W(hW:Below w.heap.size w W)(hO:Blk W O 61 #[v])(ho:W.ownsRow w.heap.size 9 1 v out.length (out.map .string))(hl:out.length≤1000000)=>
         (show Calls Tryz.prog 41 #[.slice A l.length cap,.func (.func 42) #[] #[.pointer (some ⟨O,0,none⟩)]] W (λe w'=>e= .returned (.int .i64 (if l.findIdx (readyP out)<l.length then((l.findIdx (readyP out):Nat):Int)else-1))∧Below W.heap.size W w') from by
          have:=indexFuncProduct_any 42 #[.pointer (some ⟨O,0,none⟩)] Tryz.egO2 (ProdR Z W) Z l (qAt l (readyP out)) A cap W Prods.five
           (HS.out.1.imp (λ_ _ h=>h.keep (Keeps.of_below hW)) (Keeps.of_below hW) (λ_ h=>h)) (by omega) (λi hi cs hcs W' hW'=>by
            rw[qAt_get hi]
            exact ord2_any Z O w.heap.size v out l[i] cs W' (hcs.keep (Keeps.of_below hW')) (hO.below hW' hO.lt) (own_keep (Z:=λ_=>True) ho (.of_below hW') (λ_ _=>trivial)) hl)
          rwa[firstIdx_find]at this))
        (go_loopg[14] l.length (λkx nv wr=>∃(out:List ByteArray)(v:Value)(kn:Nat),kn=kx∧Hid (out.length+kn=l.length)∧Hid (ordGo l kn out=ordGo l l.length [])∧Blk wr O 61 #[v]∧wr.ownsRow w.heap.size 9 1 v out.length (out.map .string)∧v.ownBlock≠some O∧Below w.heap.size w wr));case atStart=>exact⟨[],_,l.length,rfl,hid (by simp),hid rfl,hO,World.ownsRow_nil _ _ _ _,by simp[Value.ownBlock],hBO⟩
        case round=>
         obtain⟨out,v,kn,hkn,hlen,hgo,hbo,how,hne,hbel⟩:=hrel;have HKN2:=hid hkn;clear hO hBO hkn;obtain⟨A1,cap1,rfl,-⟩:=Row.of_own how (by decide);have o0:=hbo.at0;have ol:=hbo.lt;by_cases hlt:out.length<l.length
         ·obtain⟨kx',rfl⟩:∃kx',kn=kx'+1:=⟨kn-1,by have:=hlen.out;omega⟩;(have hn1:((out.length:Nat):Int)<(l.length:Int):=by omega);have HCF:=hid (HCL.out out _ wr hbel hbo how (by omega));have HBO:=hid (And.intro hbo (And.intro how (And.intro hne hbel)));by_cases hfi:l.findIdx (readyP out)<l.length
          ·rw[if_pos hfi]at HCF;have HGN:=hid ((ordGo_next (n:=kx') hfi).symm.trans hgo.out);obtain⟨b,off,cs,rfl,hzb,hc,hR⟩:=HS.out.1.at_ hfi;have hbs:=HS.out.2 b hzb;obtain⟨CA,ccap,PA,pcap,rfl,-,-,-⟩:=hR.form2;have hc0:w.cell? ⟨b,off+l.findIdx (readyP out)*5,none⟩=some (.string l[l.findIdx (readyP out)].id):=hc 0 _ rfl;generalize l[l.findIdx (readyP out)]=p at*;have HII:=hid hfi;have HLN:=hid hlen.out;generalize l.findIdx (readyP out)=i at*;(have hi1:((i:Nat):Int)<(l.length:Int):=by omega);(have hi0:(0:Int)≤((i:Nat):Int):=by omega);have en:decide (((i:Nat):Int)<0)=false:=decide_eq_false (by omega);clear hc hR hbo how hne hbel hlen hgo hfi;(go_wp2_with fail);refine HCF.out.mono ?_;rintro e w2 ⟨rfl,hb2⟩;have hbo:=HBO.out.1.below hb2 HBO.out.1.lt;have how:=own_keep (Z:=λ_=>True) HBO.out.2.1 (.of_below hb2) (λ_ _=>trivial);have hne:=HBO.out.2.2.1;have hbel:=HBEL_trans HBO.out.2.2.2 hb2;clear hb2 o0 ol HCF;(go_upto_region 34 with fail);have bpw:b<w2.heap.size:=Nat.lt_of_lt_of_le hbs hbel.size;have c0:=brd hbel hc0 hbs;have hob:(Value.slice A1 out.length cap1).ownBlock ≠some b:=λe=>by have:=(how.lt b e).1;omega
           have HC:=hid (λ(W:World)(hW:Keeps (λc=>(Value.slice A1 out.length cap1).ownBlock ≠some c) w2 W)=>(show W.cell? ⟨O,0,none⟩=some (.slice A1 out.length cap1)∧W.cell? ⟨b,off+i*5,none⟩=some (.string p.id) from
            ⟨hW.cell (p:=⟨O,0,none⟩) hne hbo.at0,hW.cell (p:=⟨b,off+i*5,none⟩) hob c0⟩))
           have HBB:=hid (And.intro hbo (And.intro hne hbel));have hbsz:=hbel.size;have how1:w2.drew.ownsRow w.heap.size 9 1 (.slice A1 out.length cap1) out.length (out.map .string):=how;clear hbo hne hbel hob c0 hc0;refine wp_region_S 8 (λW=>Keeps (λc=>(Value.slice A1 out.length cap1).ownBlock ≠some c) w2 W) (by kernel_rfl) ?_;have hS:(λW=>Keeps (λc=>(Value.slice A1 out.length cap1).ownBlock ≠some c) w2 W) w2.drew:=(Keeps.refl _ _).drew
           (refine tkS 0 ?_ hS ?_ ?_;rotate_left;intro w hkw;obtain⟨p0,p1⟩:=HC.out _ hkw;clear hkw;go_simp;(try with_reducible rfl);simp only[nr])
           (refine tkZ 1 ?_ hS ?_ ?_;rotate_left;intro w;go_simp;(try with_reducible rfl);simp only[nr])
           (refine tkZ 2 ?_ hS ?_ ?_;rotate_left;intro w;go_simp;(try with_reducible rfl);simp only[nr])
           (refine tkZ 3 ?_ hS ?_ ?_;rotate_left;intro w;go_simp;(try with_reducible rfl);simp only[nr])
           (refine tkZ 4 ?_ hS ?_ ?_;rotate_left;intro w;go_simp;(try with_reducible rfl);simp only[nr])
           (refine tkS 5 ?_ hS ?_ ?_;rotate_left;intro w hkw;obtain⟨p0,p1⟩:=HC.out _ hkw;clear hkw;go_simp;(try with_reducible rfl);simp only[nr])
           refine wS1 6 (λK hK=> ?_);(go_wp2_with fail);refine hK _ _ (Or.inr (hS.alloc _)) ?_;clear hK K
           (try simp only[nr])
           refine wS1 7 (λK hK=> ?_);refine oper_append1 (.tmp 75) (.tmp 81) _ rfl Tryz.underlying61 Tryz.eStrR rfl (how1.alloc _) rfl (news:=[.string p.id]) rfl (one_cell (by simp)) (by simp[Value.oneCell']) (by unfold maxLen;omega) (by omega) (by simp;omega) ?_;intro v5 w5 ho5 hg5 hat5;have hS5:=(hS.alloc (.cells #[.string p.id] 9)).grown hg5 (λk hk _ hz=>hz hk);refine hK _ _ (Or.inr hS5) ?_;clear hK K
           (try simp only[nr])
           obtain⟨g5,cap5,rfl⟩:=own_form ho5;have hbo5:=(HBB.out.1.drew.alloc (.cells #[.string p.id] 9)).grown hg5 (λe=>HBB.out.2.1 e)
           have hne5:(Value.slice (some ⟨g5,0,none⟩) (out.length+1) cap5).ownBlock ≠some O:=by
            rcases hat5 with h|h
            ·rw[h];exact HBB.out.2.1
            ·rw[h];intro e;injection e with e;have:=HBB.out.1.lt;have e2:w2.drew.heap.size=w2.heap.size:=rfl;simp at e;omega
           have hB5:Below w.heap.size w w5:=below_own ((HBB.out.2.2.drew).alloc (by show w.heap.size≤w2.heap.size;omega) _) (how1.alloc _) hg5 (by simp;omega) (Nat.le_refl _);have o0:=hbo5.at0;have of:=hbo5.frozen 0;have ol5:=hbo5.lt
           have HF:=hid (show Blk (w5.setCell ⟨O,0,none⟩ (.slice (some ⟨g5,0,none⟩) (out.length+1) cap5)) O 61 #[.slice (some ⟨g5,0,none⟩) (out.length+1) cap5]∧(w5.setCell ⟨O,0,none⟩ (.slice (some ⟨g5,0,none⟩) (out.length+1) cap5)).ownsRow w.heap.size 9 1 (.slice (some ⟨g5,0,none⟩) (out.length+1) cap5) (out++[p.id]).length ((out++[p.id]).map .string)∧(Value.slice (some ⟨g5,0,none⟩) (out.length+1) cap5).ownBlock ≠some O∧Below w.heap.size w (w5.setCell ⟨O,0,none⟩ (.slice (some ⟨g5,0,none⟩) (out.length+1) cap5)) from
            ⟨hbo5.set_ 0 _,by rw[List.length_append,List.length_singleton,List.map_append];exact own_keep (Z:=λc=>c≠O) ho5 ((Keeps.refl _ _).setCell (λ_ h=>h rfl) _) (λk hk e=>hne5 (by rw[hk,e])),hne5,hB5.setCell hOw _⟩)
           clear hbo5 hne5 hB5 ho5 hg5 hat5 hS5 hS how1 HC;refine wS1 8 (λK hK=> ?_);(go_wp2_with fail);refine hK _ _ (Or.inl rfl) ?_;clear hK K
           (try simp only[nr])
           refine wSd ?_ _;go_wp2;(go_roundg kx');(case measure=>have:=HKN2.out;omega);exact⟨out++[p.id],_,kx',rfl,hid (by rw[List.length_append,List.length_singleton];have:=HLN.out;omega),HGN,HF.out.1,HF.out.2.1,HF.out.2.2.1,HF.out.2.2.2⟩
          ·rw[if_neg hfi]at HCF;have HX:=hid (show orderP l=([],13) from by rw[HP5'.out,<-hgo.out,ordGo_none hfi]);clear hbo how hne hbel hlen hgo hfi;(go_wp2_with fail);refine HCF.out.mono ?_;rintro e w2 ⟨rfl,hb2⟩;go_wp2;go_ret2;exact ordPost_no HX.out (HBEL_trans HBO.out.2.2.2 hb2)
         ·(obtain rfl:kn=0:=by have:=hlen.out;omega);(have hl2:out.length=l.length:=by have:=hlen.out;omega);have hge:decide (out.length<l.length)=false:=decide_eq_false (by omega);have HX:=hid (show orderP l=(out,0) from by rw[HP5'.out,<-hgo.out];rfl);have HF:=hid (And.intro how hbel);clear hbo how hne hbel hlen hgo hl2 hlt;go_wp2;go_ret2;exact⟨.slice A1 out.length cap1,by rw[HX.out];rfl,by rw[HX.out];exact HF.out.1,HF.out.2⟩
       ·have HX:=hid (HP4.out HB1.out.symm HB2.out.symm HON1.out HKN.out);go_wp2;go_ret2;exact ordPost_no HX.out HBE.out
  ·(go_wp2_with fail);go_ret2;exact ordPost_no (HP2.out HB1.out.symm HB2.out.symm) hbel2
 ·go_wp2_with fail
  go_ret2;exact ordPost_no (HP1.out HB1.out.symm) hbel1
end
theorem findP_spec(l:List ProdD)(id:ByteArray):(∃k,∃hk:k<l.length,findP l id=(k:Int)∧l[k].id =id∧prodOf l id=some l[k]∧∀j(hj:j<l.length),j<k->l[j].id ≠id)∨(findP l id= -1∧prodOf l id=none∧id∉idsP l):=by
 by_cases h:l.findIdx (λp=>decide (p.id=id))<l.length
 ·left;refine⟨l.findIdx (λp=>decide (p.id=id)),h,by unfold findP;rw[if_pos h],?_,?_,?_⟩
  ·have:=List.findIdx_getElem (p:=λp:ProdD=>decide (p.id=id)) (w:=h);simpa using this
  ·unfold prodOf;rw[List.find?_eq_some_iff_getElem];have:=List.findIdx_getElem (p:=λp:ProdD=>decide (p.id=id)) (w:=h);refine⟨by simpa using this,_,h,rfl,λj hj=> ?_⟩;have:=List.not_of_lt_findIdx hj;simpa using this
  ·intro j hj hlt;have:=List.not_of_lt_findIdx hlt;simpa using this
 ·right
  have hn:prodOf l id=none:=by
   unfold prodOf;rw[List.find?_eq_none];intro p hp he;apply h;exact List.findIdx_lt_length.2 ⟨p,hp,by simpa using he⟩
  exact⟨by unfold findP;rw[if_neg h],hn,prodOf_none hn⟩
theorem findP_get{l:List ProdD}(hn:(idsP l).Nodup){k:Nat}(hk:k<l.length):findP l l[k].id =(k:Int):=by
 rcases findP_spec l l[k].id with⟨j,hj,e,e2,_⟩|⟨_,_,h⟩
 ·rw[e,ids_get hn hj hk e2]
 ·exact absurd (List.mem_map_of_mem (List.getElem_mem hk)) h
theorem findP_neg{l:List ProdD}{id:ByteArray}:findP l id<0↔id∉idsP l:=by
 rcases findP_spec l id with⟨j,hj,e,e2,_⟩|⟨e,_,h⟩
 ·rw[e];constructor
  ·intro h;omega
  ·intro h;exact absurd (by rw[<-e2];exact List.mem_map_of_mem (List.getElem_mem hj)) h
 ·rw[e];exact⟨λ_=>h,λ_=>by decide⟩
def atS(l:List ProdD)(o:List ByteArray)(n:Nat):List Int:=l.map λp=>if rk o p.id<n then(rk o p.id:Int)+1 else 0
theorem atS_length(l:List ProdD)(o:List ByteArray)(n:Nat):(atS l o n).length =l.length:=by unfold atS;simp
theorem atS_get{l:List ProdD}{o:List ByteArray}{n k:Nat}(hk:k<l.length):(atS l o n)[k]'(by rw[atS_length];exact hk)=if rk o l[k].id <n then(rk o l[k].id :Int)+1 else 0:=by unfold atS;simp
theorem atS_zero(l:List ProdD)(o:List ByteArray):atS l o 0=List.replicate l.length 0:=by
 unfold atS;simp only[Nat.not_lt_zero,if_false];exact List.map_const'
theorem atS_step{l:List ProdD}{o:List ByteArray}(h:OrdOk l o){n k:Nat}(hn:n<o.length)(hk:k<l.length)(e:l[k].id =o[n]):(atS l o n)[k]'(by rw[atS_length];exact hk)=0∧(atS l o n).set k ((n:Int)+1)=atS l o (n+1):=by
 have hr:rk o l[k].id =n:=by rw[e,rk_get h.ord.nodup hn]
 refine⟨by rw[atS_get hk,hr,if_neg (Nat.lt_irrefl _)],?_⟩;apply List.ext_getElem
 ·rw[List.length_set,atS_length,atS_length]
 ·intro j h1 h2;rw[List.length_set,atS_length]at h1;rw[List.getElem_set];by_cases hj:k=j
  ·subst hj;rw[if_pos rfl,atS_get hk,hr,if_pos (Nat.lt_succ_self _)]
  ·rw[if_neg hj,atS_get h1,atS_get h1]
   have hne:rk o l[j].id ≠n:=by
    intro e2;apply hj;refine ids_get h.ids hk h1 ?_;have:=get_rk (h.all _ (List.mem_map_of_mem (f:=ProdD.id) (List.getElem_mem h1)));rw[e,<-this];simp only[e2]
   by_cases hlt:rk o l[j].id <n
   ·rw[if_pos hlt,if_pos (by omega)]
   ·rw[if_neg hlt,if_neg (by omega)]
theorem atS_full{l:List ProdD}{o:List ByteArray}(h:OrdOk l o){k:Nat}(hk:k<l.length):(atS l o o.length)[k]'(by rw[atS_length];exact hk)=(rk o l[k].id :Int)+1:=by
 rw[atS_get hk,if_pos (rk_lt (h.all _ (List.mem_map_of_mem (List.getElem_mem hk))))]
end Go.Proofs.YtimmfbnjndndlaaGreatDoor
