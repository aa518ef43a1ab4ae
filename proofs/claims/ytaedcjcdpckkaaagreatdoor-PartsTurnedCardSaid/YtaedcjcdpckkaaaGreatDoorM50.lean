/- Texts RV0 RV1. -/
import Derived.Test.YtaedcjcdpckkaaaGreatDoorM49
set_option linter.all false
namespace Go.Proofs.YtaedcjcdpckkaaaGreatDoor
open Go.RowKit
set_option maxHeartbeats 8000000
set_option maxRecDepth 100000
section
open Go.Shelf
structure SumF (w W:World) (a:Bool) (b c:ByteArray) (pv:Array Value):Prop where
 f:Blk W w.heap.size 37 #[.bool a,.string b,.string c]
 p:Blk W (w.heap.size+1) 53 pv
 r:Blk W (w.heap.size+1+1) 37 #[.bool false,.string ⟨#[]⟩,.string ⟨#[]⟩]
 be:Below w.heap.size w W
section
variable {w W W':World} {a:Bool} {b c:ByteArray} {pv:Array Value}
theorem SumF.below(h:SumF w W a b c pv)(hb:Below W.heap.size W W'):SumF w W' a b c pv:=
 ⟨h.f.below hb h.f.lt,h.p.below hb h.p.lt,h.r.below hb h.r.lt,HBEL_trans h.be hb⟩
theorem SumF.new(w:World)(a:Bool)(b c:ByteArray)(pv:Array Value):SumF w (((w.alloc (.cells #[.bool a,.string b,.string c] 37)).alloc (.cells pv 53)).alloc (.cells #[.bool false,.string ⟨#[]⟩,.string ⟨#[]⟩] 37)) a b c pv:=by
 have h1:=Blk.new (w.alloc (.cells #[.bool a,.string b,.string c] 37)) 53 pv;have h2:=Blk.new ((w.alloc (.cells #[.bool a,.string b,.string c] 37)).alloc (.cells pv 53)) 37 #[.bool false,.string ⟨#[]⟩,.string ⟨#[]⟩];rw[World.size_alloc]at h1;rw[World.size_alloc,World.size_alloc]at h2;exact⟨((Blk.new w _ _).alloc _).alloc _,h1.alloc _,h2,((below1 w _).alloc (by simp) _).alloc (by simp;omega) _⟩
theorem SumF.out(h:SumF w W a b c pv)(x:Bool)(y z:ByteArray):
  Blk (((W.setCell ⟨w.heap.size+1+1,0,none⟩ (.bool x)).setCell ⟨w.heap.size+1+1,1,none⟩ (.string y)).setCell ⟨w.heap.size+1+1,2,none⟩ (.string z)) (w.heap.size+1+1) 37 #[.bool x,.string y,.string z]∧Below w.heap.size w (((W.setCell ⟨w.heap.size+1+1,0,none⟩ (.bool x)).setCell ⟨w.heap.size+1+1,1,none⟩ (.string y)).setCell ⟨w.heap.size+1+1,2,none⟩ (.string z)):=
 ⟨((h.r.set_ 0 _).set_ 1 _).set_ 2 _,((h.be.setCell (by show _≤w.heap.size+1+1;omega) _).setCell (by show _≤w.heap.size+1+1;omega) _).setCell (by show _≤w.heap.size+1+1;omega) _⟩
theorem SumF.put(h:SumF w W a b c pv)(x:Bool)(y z:ByteArray):SumF w (((W.setCell ⟨w.heap.size,0,none⟩ (.bool x)).setCell ⟨w.heap.size,1,none⟩ (.string y)).setCell ⟨w.heap.size,2,none⟩ (.string z)) x y z pv:=
 ⟨((h.f.set_ 0 _).set_ 1 _).set_ 2 _,((h.p.far (by show _≠w.heap.size;omega) _).far (by show _≠w.heap.size;omega) _).far (by show _≠w.heap.size;omega) _,
  ((h.r.far (by show _≠w.heap.size;omega) _).far (by show _≠w.heap.size;omega) _).far (by show _≠w.heap.size;omega) _,
  ((h.be.setCell (by show _≤w.heap.size;omega) _).setCell (by show _≤w.heap.size;omega) _).setCell (by show _≤w.heap.size;omega) _⟩
end
def SumO(w:World)(s:Rt × Bool)(e:Ending)(w':World):Prop:=
 ∃a b c,e= .returned (.tuple #[.agg #[.bool a,.string b,.string c],.bool s.2])∧(s.2=true-> .agg #[.bool a,.string b,.string c]=rtV s.1)∧Below w.heap.size w w'
theorem SumO.bad{w w':World}{s:Rt × Bool}{a:Bool}{b c:ByteArray}(h:s=(rt0,false))(hb:Below w.heap.size w w'):SumO w s (.returned (.tuple #[.agg #[.bool a,.string b,.string c],.bool false])) w':=by
 subst h;exact⟨a,b,c,rfl,(λh0=>by cases h0),hb⟩
theorem rtE_is{M:Rt × Int}(h:M.2=0):rtE M=rtV M.1:=by obtain⟨r,e⟩:=M;exact if_pos h
theorem sumG_cons(of:ByteArray->Rt × Int)(c:CompD)(L:List CompD)(x:Rt):sumG of (c::L) x=if(of c.prod).2≠0 then(rt0,false)else if(mulR (ofR c.cnt 1) (of c.prod).1).2≠0 then(rt0,false)else
  if(addR x (mulR (ofR c.cnt 1) (of c.prod).1).1).2≠0 then(rt0,false)else sumG of L (addR x (mulR (ofR c.cnt 1) (of c.prod).1).1).1:=rfl
theorem sum28_any(G:FuncId)(lb:Array Value)(eg:∀args w,(callFunc G args).run Tryz.prog w= .ok (.enter G args) w)(Z:Zone)(id cur:ByteArray)(CA:Option Addr)(cn ccap:Nat)(un:Int)(PA:Option Addr)(pcap:Nat)(L:List CompD)(x0:Rt)(of:ByteArray->Rt × Int)(w:World)
  (hx0:RtOk x0)(hL:Comps Z w (.slice PA L.length pcap) L)(hz:∀b,Z b->b<w.heap.size)(hcnt:∀c∈L,-10000≤c.cnt∧c.cnt≤10000)(hres:∀c∈L,ResOk (of c.prod))(htab:TabB w.heap.size w)
  (hof:∀W,Below w.heap.size w W->∀c∈L,Calls Tryz.prog G (#[.string c.prod]++lb) W λe W'=>e= .returned (.tuple #[rtE (of c.prod),.int .i64 (of c.prod).2])∧Below W.heap.size W W'):
  Calls Tryz.prog 27 #[rtV x0,.agg #[.string id,.slice CA cn ccap,.string cur,.int .i64 un,.slice PA L.length pcap],.func (.func G) #[] lb] w λe w'=>SumO w (sumG of L x0) e w':=by
 obtain⟨S,hS⟩:∃S,S=sumG of L x0:=⟨_,rfl⟩;rw[<-hS];obtain⟨PA',pcap',e',hpl',hps⟩:=hL.form;injection e' with e1 e2 e3;subst e1 e3;have HPS:=hid hps;have HZ:=hid hz;have HCN:=hid hcnt;have HRES:=hid hres;have HTB:=hid htab;have HOF:=hid hof;have HXK0:=hid hx0;have HSG0:=hid hS;obtain⟨a0,b0,c0,hxv⟩:=rt_tri x0;have HXV0:=hid hxv;rw[hxv];clear hL hz hcnt hres htab hof hx0 hS e2 hps hxv;obtain⟨ln,hln⟩:∃ln,ln=L.length:=⟨_,rfl⟩;rw[<-hln];rw[<-hln]at hpl';have HLN:=hid hln;clear hln;have h0:=SumF.new w a0 b0 c0 #[.string id,.slice CA cn ccap,.string cur,.int .i64 un,.slice PA ln pcap];go_enter Tryz.func27,Tryz.ntmps27
 go_upto_region 1 with fail
 generalize ((w.alloc (.cells #[.bool a0,.string b0,.string c0] 37)).alloc (.cells #[.string id,.slice CA cn ccap,.string cur,.int .i64 un,.slice PA ln pcap] 53)).alloc (.cells #[.bool false,.string ⟨#[]⟩,.string ⟨#[]⟩] 37)=w0 at*;have H0:=hid h0;clear h0;go_wp2;go_loopw[8] (λiv wr=>∃(j:Nat)(x:Rt)(xa:Bool)(xb xc:ByteArray),j≤ln∧iv= .int .i64 j∧SumF w wr xa xb xc #[.string id,.slice CA cn ccap,.string cur,.int .i64 un,.slice PA ln pcap]∧Hid (rtV x= .agg #[.bool xa,.string xb,.string xc])∧Hid (RtOk x)∧Hid (S=sumG of (L.drop j) x)) (λiv _=>ln-(intOf iv).toNat);case atStart=>exact⟨0,x0,a0,b0,c0,Nat.zero_le _,rfl,H0.out,HXV0,HXK0,HSG0⟩
 case round=>
  obtain⟨j,x,xa,xb,xc,hj,rfl,hF,HXV,HXK,HSG⟩:=hrel;clear H0 HXV0 HXK0 HSG0;by_cases hjl:j<ln
  ·(have hjl':j<L.length:=by rw[<-HLN.out];exact hjl);obtain⟨pb,poff,pcs,rfl,hzp,hpc,hpe⟩:=HPS.out.at_ hjl';have hpbs:=HZ.out pb hzp;subst hpe;obtain⟨d0,d1⟩:=comp_cells (cells_below hF.be hpbs hpc);have hpbs2:pb<wr.heap.size:=Nat.lt_of_lt_of_le hpbs hF.be.size;have HST:=hid (HSG.out.trans ((congrArg (λq=>sumG of q x) (List.drop_eq_getElem_cons hjl')).trans (sumG_cons of L[j] (L.drop (j+1)) x)));have HC:=hid (HOF.out wr hF.be L[j] (List.getElem_mem hjl'));have HRY:=hid (HRES.out L[j] (List.getElem_mem hjl'));have HCJ:=hid (HCN.out L[j] (List.getElem_mem hjl'));clear hpc HSG;generalize L[j]=cc at*;clear hjl';obtain⟨cp,ck⟩:=cc;dsimp only at*;generalize of cp=y at*;obtain⟨ya,yb,yc,hy⟩:=rtE_tri y;rw[hy]at HC;have HY:=hid hy;clear hy;have p4:=hF.p.at4;have pl:=hF.p.lt;(have hj1:((j:Nat):Int)<(ln:Int):=by omega);(have hj0:(0:Int)≤((j:Nat):Int):=by omega);have HF:=hid hF;clear hF;(go_wp2_with fail);refine HC.out.mono ?_;rintro e w1 ⟨rfl,hb1⟩;have hb1':=hb1.alloc hb1.size (.cells #[.bool ya,.string yb,.string yc] 37);have hF1:=HF.out.below hb1';have hYB:=Blk.new w1 37 #[.bool ya,.string yb,.string yc];have d0':=hb1'.cell (p:=⟨pb,poff+j*2,none⟩) hpbs2;have d1':=hb1'.cell (p:=⟨pb,poff+j*2+1,none⟩) hpbs2;rw[d0]at d0';rw[d1]at d1';have hpbs3:pb<(w1.alloc (.cells #[.bool ya,.string yb,.string yc] 37)).heap.size :=Nat.lt_of_lt_of_le hpbs2 hb1'.size;have hyl:w.heap.size<w1.heap.size:=Nat.lt_of_lt_of_le (Nat.lt_of_lt_of_le (by omega) HF.out.r.lt) hb1.size;clear d0 d1 hb1 hb1' HF HC p4 pl hpbs2;(go_upto_region 5 with fail);generalize w1.alloc (.cells #[.bool ya,.string yb,.string yc] 37)=w2 at*;(have hyy:w1.heap.size≠w.heap.size:=by have:=hF1.r.lt;have:=hF1.be.size;have:=hyl;omega);generalize w1.heap.size=yy at*;obtain⟨yr,ye⟩:=y;dsimp only at*;by_cases he1:ye=0
   ·subst he1;have HST2:=hid (HST.out.trans (if_neg (by decide)));have hyr:RtOk yr:=HRY.out rfl;have hyv:rtV yr= .agg #[.bool ya,.string yb,.string yc]:=HY.out;have HYV:=hid hyv;have HYK:=hid hyr;clear HST HRY HY hyv hyr;obtain⟨na,nb,nc,hn⟩:=rt_tri (ofR ck 1);have HN:=hid hn;have hor:=ofR_rt (n:=ck) HCJ.out;(have hck:I64 ck:=by have:=HCJ.out;unfold I64;omega);have hTB2:TabB w2.heap.size w2:=(HTB.out.on hF1.be).mono hF1.be.size;have HNU:=hid (λX(hX:Below w2.heap.size w2 X)=>h_num hck HN.out X ((hTB2.on hX).mono hX.size));have HMU:=hid (λX(hX:Below w2.heap.size w2 X)=>rmul_any (ofR ck 1) yr hor HYK.out X ((hTB2.on hX).mono hX.size));have HMO:=hid (λh=>mulR_rtok (a:=ofR ck 1) (b:=yr) hor HYK.out h);generalize mulR (ofR ck 1) yr=M at*;obtain⟨ma,mb,mc,hm⟩:=rtE_tri M;rw[HN.out,HYV.out,hm]at HMU;have HM:=hid hm;have HF1:=hid hF1;have HTB2:=hid hTB2;clear hm hn hor hck hF1 hTB2 HN;(go_upto_region 7 with fail);go_cut[11,10] from 33 to 44 (λvp ve wx=>∃bx,vp= .pointer (some ⟨bx,0,none⟩)∧ve= .int .i64 M.2∧Blk wx bx 37 #[.bool ma,.string mb,.string mc]∧w2.heap.size≤bx∧Below w2.heap.size w2 wx)
    case first=>
     have HC:=hid (λ(W:World)(hW:Below w2.heap.size w2 W)=>(show W.cell? ⟨w.heap.size+1,4,none⟩=some (.slice (some ⟨pb,poff,none⟩) ln pcap)∧W.cell? ⟨pb,poff+j*2+1,none⟩=some (.int .i64 ck)∧W.cell? ⟨yy,0,none⟩=some (.bool ya)∧W.cell? ⟨yy,1,none⟩=some (.string yb)∧W.cell? ⟨yy,2,none⟩=some (.string yc) from by
      have h1:=hYB.below hW hYB.lt;have h2:=HF1.out.below hW;have h3:=hW.cell (p:=⟨pb,poff+j*2+1,none⟩) hpbs3;rw[d1']at h3
      exact⟨h2.p.at4,h3,h1.at0,h1.at1,h1.at2⟩))
     refine wp_region_S 13 (λW=>Below w2.heap.size w2 W) (by kernel_rfl) ?_;have hB0:Below w2.heap.size w2 w2.drew:=(Below.refl _ _).drew;have hS:(λW=>Below w2.heap.size w2 W) w2.drew:=hB0;generalize w2.drew=x0 at*
     (refine tkZ 0 ?_ hS ?_ ?_;rotate_left;intro w;go_simp;(try with_reducible rfl);simp only[nr])
     (refine tkS 1 ?_ hS ?_ ?_;rotate_left;intro w hkw;obtain⟨k0,k1,k2,k3,k4⟩:=HC.out _ hkw;clear hkw;go_simp;(try with_reducible rfl);simp only[nr])
     (refine tkZ 2 ?_ hS ?_ ?_;rotate_left;intro w;go_simp;(try with_reducible rfl);simp only[nr])
     (refine tkZ 3 ?_ hS ?_ ?_;rotate_left;intro w;go_simp;(try with_reducible rfl);simp only[nr])
     (refine tkZ 4 ?_ hS ?_ ?_;rotate_left;intro w;go_simp;(try with_reducible rfl);simp only[nr])
     (refine tkS 5 ?_ hS ?_ ?_;rotate_left;intro w hkw;obtain⟨k0,k1,k2,k3,k4⟩:=HC.out _ hkw;clear hkw;go_simp;(try with_reducible rfl);simp only[nr])
     (refine tkS 7 ?_ hS ?_ ?_;rotate_left;intro w hkw;obtain⟨k0,k1,k2,k3,k4⟩:=HC.out _ hkw;clear hkw;go_simp;(try with_reducible rfl);simp only[nr])
     clear hS;refine wS2 6 12 (λK hK=> ?_) (λK hK=> ?_)
     ·(go_wp2_with fail);refine(HNU.out _ hB0).mono ?_;rintro e x1 ⟨rfl,hb⟩;have hB1:Below w2.heap.size w2 x1:=hB0.trans (hb.mono hB0.size);refine hK _ _ (Or.inr hB1) ?_;clear hK K hb
      (try simp only[nr])
      refine wS2 8 12 (λK hK=> ?_) (λK hK=> ?_)
      ·(go_wp2_with fail);refine(HMU.out _ hB1).mono ?_;rintro e x2 ⟨rfl,hb⟩;have hB2:Below w2.heap.size w2 x2:=hB1.trans (hb.mono hB1.size);refine hK _ _ (Or.inr hB2) ?_;clear hK K hb
       (try simp only[nr])
       have hS:(λW=>Below w2.heap.size w2 W) x2:=hB2
       (refine tkZ 9 ?_ hS ?_ ?_;rotate_left;intro w;go_simp;(try with_reducible rfl);simp only[nr])
       (refine tkZ 10 ?_ hS ?_ ?_;rotate_left;intro w;go_simp;(try with_reducible rfl);simp only[nr])
       (refine tkZ 11 ?_ hS ?_ ?_;rotate_left;intro w;go_simp;(try with_reducible rfl);simp only[nr])
       clear hS;refine wS1 12 (λK hK=> ?_);(go_wp2_with fail);refine hK _ _ (Or.inr (hB2.alloc hB2.size _)) ?_;clear hK K
       (try simp only[nr])
       have hB3:Below w2.heap.size w2 (x2.alloc (.cells #[.bool false,.string ⟨#[]⟩,.string ⟨#[]⟩] 37)):=hB2.alloc hB2.size _;have hX3:=Blk.new x2 37 #[.bool false,.string ⟨#[]⟩,.string ⟨#[]⟩];generalize x2.alloc (.cells #[.bool false,.string ⟨#[]⟩,.string ⟨#[]⟩] 37)=x3 at*;refine wS1 13 (λK hK=> ?_);have c0:=hX3.at0;have c1:=hX3.at1;have c2:=hX3.at2;have g0:=hX3.frozen 0;have g1:=hX3.frozen 1;have g2:=hX3.frozen 2;have cl:=hX3.lt;have HXX:=hid hX3;clear hX3;(go_wp2_with fail);refine hK _ _ (Or.inl rfl) ?_;clear hK K
       (try simp only[nr])
       refine wS1 14 (λK hK=> ?_);(go_wp2_with fail);refine hK _ _ (Or.inl rfl) ?_;clear hK K
       (try simp only[nr])
       refine wSd ?_ _;(go_wp2_with fail);go_meet;exact⟨x2.heap.size,rfl,rfl,((HXX.out.set_ 0 _).set_ 1 _).set_ 2 _,hB2.size,((hB3.setCell hB2.size _).setCell hB2.size _).setCell hB2.size _⟩
      ·(go_wp2_with fail);refine hK _ _ (Or.inr (hB1.alloc hB1.size _)) ?_;clear hK K
       (try simp only[nr])
       have hB2:Below w2.heap.size w2 (x1.alloc (.cells #[.bool false,.string ⟨#[]⟩,.string ⟨#[]⟩] 37)):=hB1.alloc hB1.size _;have hX2:=Blk.new x1 37 #[.bool false,.string ⟨#[]⟩,.string ⟨#[]⟩];generalize x1.alloc (.cells #[.bool false,.string ⟨#[]⟩,.string ⟨#[]⟩] 37)=x2 at*;refine wS1 8 (λK hK=> ?_);(go_wp2_with fail);refine(HMU.out _ hB2).mono ?_;rintro e x3 ⟨rfl,hb⟩;have hB3:Below w2.heap.size w2 x3:=hB2.trans (hb.mono hB2.size);have hX3:=hX2.below hb hX2.lt;refine hK _ _ (Or.inr hB3) ?_;clear hK K hb
       (try simp only[nr])
       have hS:(λW=>Below w2.heap.size w2 W) x3:=hB3
       (refine tkZ 9 ?_ hS ?_ ?_;rotate_left;intro w;go_simp;(try with_reducible rfl);simp only[nr])
       (refine tkZ 10 ?_ hS ?_ ?_;rotate_left;intro w;go_simp;(try with_reducible rfl);simp only[nr])
       (refine tkZ 11 ?_ hS ?_ ?_;rotate_left;intro w;go_simp;(try with_reducible rfl);simp only[nr])
       clear hS;refine wS1 13 (λK hK=> ?_);have c0:=hX3.at0;have c1:=hX3.at1;have c2:=hX3.at2;have g0:=hX3.frozen 0;have g1:=hX3.frozen 1;have g2:=hX3.frozen 2;have cl:=hX3.lt;have HXX:=hid hX3;clear hX3;(go_wp2_with fail);refine hK _ _ (Or.inl rfl) ?_;clear hK K
       (try simp only[nr])
       refine wS1 14 (λK hK=> ?_);(go_wp2_with fail);refine hK _ _ (Or.inl rfl) ?_;clear hK K
       (try simp only[nr])
       refine wSd ?_ _;(go_wp2_with fail);go_meet;exact⟨x1.heap.size,rfl,rfl,((HXX.out.set_ 0 _).set_ 1 _).set_ 2 _,hB1.size,((hB3.setCell hB1.size _).setCell hB1.size _).setCell hB1.size _⟩
     ·(go_wp2_with fail);refine hK _ _ (Or.inr (hB0.alloc hB0.size _)) ?_;clear hK K
      (try simp only[nr])
      have hB1:Below w2.heap.size w2 (x0.alloc (.cells #[.bool false,.string ⟨#[]⟩,.string ⟨#[]⟩] 37)):=hB0.alloc hB0.size _;have hX1:=Blk.new x0 37 #[.bool false,.string ⟨#[]⟩,.string ⟨#[]⟩];generalize x0.alloc (.cells #[.bool false,.string ⟨#[]⟩,.string ⟨#[]⟩] 37)=x1 at*;refine wS1 6 (λK hK=> ?_);(go_wp2_with fail);refine(HNU.out _ hB1).mono ?_;rintro e x2 ⟨rfl,hb⟩;have hB2:Below w2.heap.size w2 x2:=hB1.trans (hb.mono hB1.size);have hX2:=hX1.below hb hX1.lt;refine hK _ _ (Or.inr hB2) ?_;clear hK K hb
      (try simp only[nr])
      refine wS1 8 (λK hK=> ?_);(go_wp2_with fail);refine(HMU.out _ hB2).mono ?_;rintro e x3 ⟨rfl,hb⟩;have hB3:Below w2.heap.size w2 x3:=hB2.trans (hb.mono hB2.size);have hX3:=hX2.below hb hX2.lt;refine hK _ _ (Or.inr hB3) ?_;clear hK K hb
      (try simp only[nr])
      have hS:(λW=>Below w2.heap.size w2 W) x3:=hB3
      (refine tkZ 9 ?_ hS ?_ ?_;rotate_left;intro w;go_simp;(try with_reducible rfl);simp only[nr])
      (refine tkZ 10 ?_ hS ?_ ?_;rotate_left;intro w;go_simp;(try with_reducible rfl);simp only[nr])
      (refine tkZ 11 ?_ hS ?_ ?_;rotate_left;intro w;go_simp;(try with_reducible rfl);simp only[nr])
      clear hS;refine wS1 13 (λK hK=> ?_);have c0:=hX3.at0;have c1:=hX3.at1;have c2:=hX3.at2;have g0:=hX3.frozen 0;have g1:=hX3.frozen 1;have g2:=hX3.frozen 2;have cl:=hX3.lt;have HXX:=hid hX3;clear hX3;(go_wp2_with fail);refine hK _ _ (Or.inl rfl) ?_;clear hK K
      (try simp only[nr])
      refine wS1 14 (λK hK=> ?_);(go_wp2_with fail);refine hK _ _ (Or.inl rfl) ?_;clear hK K
      (try simp only[nr])
      refine wSd ?_ _;(go_wp2_with fail);go_meet;exact⟨x0.heap.size,rfl,rfl,((HXX.out.set_ 0 _).set_ 1 _).set_ 2 _,hB0.size,((hB3.setCell hB0.size _).setCell hB0.size _).setCell hB0.size _⟩
    case rest=>
     obtain⟨zz,rfl,rfl,hx,hxl,hb⟩:=hcut;(rename World=>w3);have hF3:=HF1.out.below hb;have hY3:=hYB.below hb hYB.lt;have hTB3:TabB w3.heap.size w3:=(HTB2.out.on hb).mono hb.size;clear hb hxl HF1 HTB2 hYB HNU HMU;by_cases he2:M.2=0
     ·have HST3:=hid (HST2.out.trans (if_neg (by simp[he2])));have hmr:RtOk M.1:=HMO.out he2;(have hmv:rtV M.1= .agg #[.bool ma,.string mb,.string mc]:=by rw[<-HM.out];exact(rtE_is he2).symm);have HAD:=hid (radd_any x M.1 HXK.out hmr w3 hTB3);have HAO:=hid (λh=>addR_rtok (a:=x) (b:=M.1) HXK.out hmr h);generalize addR x M.1=A at*;obtain⟨aa,ab,ac,ha⟩:=rtE_tri A;rw[HXV.out,hmv,ha]at HAD;have HA:=hid ha;rw[he2];clear ha hmv hmr HST2 HMO HM HXV HXK hTB3 he2;(go_upto_region 8 with fail);have m0:=hx.at0;have m1:=hx.at1;have m2:=hx.at2;have ml:=hx.lt;have f0:=hF3.f.at0;have f1:=hF3.f.at1;have f2:=hF3.f.at2;have fl:=hF3.f.lt;have HF3:=hid hF3;have HY3:=hid hY3;clear hF3 hY3 hx;(go_wp2_with fail);refine HAD.out.mono ?_;rintro e w4 ⟨rfl,hb⟩;have hF4:=HF3.out.below hb;have hY4:=HY3.out.below hb HY3.out.lt;clear hb HF3 HY3 HAD m0 m1 m2 ml f0 f1 f2 fl;have f0:=hF4.f.at0;have f1:=hF4.f.at1;have f2:=hF4.f.at2;have g0:=hF4.f.frozen 0;have g1:=hF4.f.frozen 1;have g2:=hF4.f.frozen 2;have fl:=hF4.f.lt;have hF5:=hF4.put aa ab ac;have hyne:yy≠w.heap.size:=hyy;have hY5:=((hY4.far (p:=⟨w.heap.size,0,none⟩) hyne (.bool aa)).far (p:=⟨w.heap.size,1,none⟩) hyne (.string ab)).far (p:=⟨w.heap.size,2,none⟩) hyne (.string ac);clear hF4 hY4;(go_upto_region 11 with fail);clear f0 f1 f2 g0 g1 g2 fl;generalize (((w4.setCell ⟨w.heap.size,0,none⟩ (.bool aa)).setCell ⟨w.heap.size,1,none⟩ (.string ab)).setCell ⟨w.heap.size,2,none⟩ (.string ac))=w5 at*;by_cases he3:A.2=0
      ·have HST4:=hid (HST3.out.trans (if_neg (by simp[he3])));have har:RtOk A.1:=HAO.out he3;(have hav:rtV A.1= .agg #[.bool aa,.string ab,.string ac]:=by rw[<-HA.out];exact(rtE_is he3).symm);have HAR:=hid har;have HAV:=hid hav;have HF5:=hid hF5;rw[he3];clear hav har hF5 hY5 HAO HA HST3 he3;go_wp2;go_roundw;(case rel=>exact⟨j+1,A.1,aa,ab,ac,by omega,by go_num,HF5.out,HAV,HAR,HST4⟩);case measure=>simp[intOf];omega
      ·(have he3':(A.2==0)=false:=by simp[he3]);have HSE:=hid (HST3.out.trans (if_pos he3));clear HST3 HAO HA;have q0:=hY5.at0;have q1:=hY5.at1;have q2:=hY5.at2;have ql:=hY5.lt;have r0:=hF5.r.at0;have r1:=hF5.r.at1;have r2:=hF5.r.at2;have g0:=hF5.r.frozen 0;have g1:=hF5.r.frozen 1;have g2:=hF5.r.frozen 2;have gl:=hF5.r.lt;have H6:=hid hF5;clear hF5 hY5;(go_wp2_with fail);have HO:=H6.out.out ya yb yc;have r0:=HO.1.at0;have r1:=HO.1.at1;have r2:=HO.1.at2;exact bodyPost_ret (v:= .tuple #[.agg #[.bool ya,.string yb,.string yc],.bool false]) (by simp[results,Tryz.results27,go_sem,r0,r1,r2]) rfl (SumO.bad HSE.out HO.2)
     ·(have he2':(M.2==0)=false:=by simp[he2]);have HSE:=hid (HST2.out.trans (if_pos he2));clear HST2 HMO HM hx;have q0:=hY3.at0;have q1:=hY3.at1;have q2:=hY3.at2;have ql:=hY3.lt;have r0:=hF3.r.at0;have r1:=hF3.r.at1;have r2:=hF3.r.at2;have g0:=hF3.r.frozen 0;have g1:=hF3.r.frozen 1;have g2:=hF3.r.frozen 2;have gl:=hF3.r.lt;have H6:=hid hF3;clear hF3 hY3;(go_wp2_with fail);have HO:=H6.out.out ya yb yc;have r0:=HO.1.at0;have r1:=HO.1.at1;have r2:=HO.1.at2;exact bodyPost_ret (v:= .tuple #[.agg #[.bool ya,.string yb,.string yc],.bool false]) (by simp[results,Tryz.results27,go_sem,r0,r1,r2]) rfl (SumO.bad HSE.out HO.2)
   ·(have he1':(ye==0)=false:=by simp[he1]);have HSE:=hid (HST.out.trans (if_pos he1));clear HST HRY HY d0' d1';have q0:=hYB.at0;have q1:=hYB.at1;have q2:=hYB.at2;have ql:=hYB.lt;have r0:=hF1.r.at0;have r1:=hF1.r.at1;have r2:=hF1.r.at2;have g0:=hF1.r.frozen 0;have g1:=hF1.r.frozen 1;have g2:=hF1.r.frozen 2;have gl:=hF1.r.lt;have H6:=hid hF1;clear hF1 hYB;(go_wp2_with fail);have HO:=H6.out.out ya yb yc;have r0:=HO.1.at0;have r1:=HO.1.at1;have r2:=HO.1.at2;exact bodyPost_ret (v:= .tuple #[.agg #[.bool ya,.string yb,.string yc],.bool false]) (by simp[results,Tryz.results27,go_sem,r0,r1,r2]) rfl (SumO.bad HSE.out HO.2)
  ·(obtain rfl:j=ln:=by omega);have HS2:=hid (show S=(x,true) from by rw[HSG.out,HLN.out,List.drop_length];rfl);have p4:=hF.p.at4;have pl:=hF.p.lt;have q0:=hF.f.at0;have q1:=hF.f.at1;have q2:=hF.f.at2;have ql:=hF.f.lt;have r0:=hF.r.at0;have r1:=hF.r.at1;have r2:=hF.r.at2;have g0:=hF.r.frozen 0;have g1:=hF.r.frozen 1;have g2:=hF.r.frozen 2;have gl:=hF.r.lt;have H6:=hid hF;clear hF HSG;(go_wp2_with fail);have HO:=H6.out.out xa xb xc;have r0:=HO.1.at0;have r1:=HO.1.at1;have r2:=HO.1.at2;exact bodyPost_ret (v:= .tuple #[.agg #[.bool xa,.string xb,.string xc],.bool true]) (by simp[results,Tryz.results27,go_sem,r0,r1,r2]) rfl (show SumO w S _ _ from by rw[HS2.out];exact⟨xa,xb,xc,rfl,λ_=>HXV.out.symm,HO.2⟩)
end
section
open Go.Shelf
theorem wpList_eqRw{ops:Array Oper}{rest:List Oper}{o:Oper}{a:Act}{w:World}{Q:Exit->Act->World->Prop}(hgd:Region.wanted o (yielded ops a.tmps)=true)(x y:Operand)(ho:o.op= .binOp .eql 37 x y 37)(p q:Rt)(hx:a.eval x=rtV p)(hy:a.eval y=rtV q)
  (h:wpList Tryz.prog ops Q rest (a.put o.dst (.bool (decide (p=q)))) w):wpList Tryz.prog ops Q (o::rest) a w:=
 BigFrame.wpList_want hgd λK hK=>oper_eqR x y ho p q hx hy (hK _ _ h)
structure ValF (w W:World) (tv:Array Value) (lv rv:Value) (base:ByteArray) (day:Int):Prop where
 t:Blk W (w.heap.size) 27 tv
 l:Blk W (w.heap.size+1) 28 #[lv]
 r:Blk W (w.heap.size+1+1) 29 #[rv]
 b:Blk W (w.heap.size+1+1+1) 9 #[.string base]
 d:Blk W (w.heap.size+1+1+1+1) 3 #[.int .i64 day]
 be:Below w.heap.size w W
theorem ValF.below{w W W':World}{tv:Array Value}{lv rv:Value}{base:ByteArray}{day:Int}(h:ValF w W tv lv rv base day)(hb:Below W.heap.size W W'):ValF w W' tv lv rv base day:=
 ⟨h.t.below hb h.t.lt,h.l.below hb h.l.lt,h.r.below hb h.r.lt,h.b.below hb h.b.lt,h.d.below hb h.d.lt,HBEL_trans h.be hb⟩
theorem ValF.new(w:World)(tv:Array Value)(lv rv:Value)(base:ByteArray)(day:Int):ValF w (((((w.alloc (.cells tv 27)).alloc (.cells #[lv] 28)).alloc (.cells #[rv] 29)).alloc (.cells #[.string base] 9)).alloc (.cells #[.int .i64 day] 3)) tv lv rv base day:=by
 have h1:=Blk.new (w.alloc (.cells tv 27)) 28 #[lv];rw[World.size_alloc]at h1;have h2:=Blk.new ((w.alloc (.cells tv 27)).alloc (.cells #[lv] 28)) 29 #[rv];rw[World.size_alloc,World.size_alloc]at h2;have h3:=Blk.new (((w.alloc (.cells tv 27)).alloc (.cells #[lv] 28)).alloc (.cells #[rv] 29)) 9 #[.string base];rw[World.size_alloc,World.size_alloc,World.size_alloc]at h3;have h4:=Blk.new ((((w.alloc (.cells tv 27)).alloc (.cells #[lv] 28)).alloc (.cells #[rv] 29)).alloc (.cells #[.string base] 9)) 3 #[.int .i64 day];rw[World.size_alloc,World.size_alloc,World.size_alloc,World.size_alloc]at h4;exact⟨(((((Blk.new w _ _).alloc _).alloc _).alloc _).alloc _),(((h1.alloc _).alloc _).alloc _),((h2.alloc _).alloc _),(h3.alloc _),h4,((((below1 w _).alloc (by simp) _).alloc (by simp;omega) _).alloc (by simp;omega) _).alloc (by simp;omega) _⟩
theorem Tryz.egvaluesC:∀args w,(callFunc 28 args).run Tryz.prog w= .ok (.enter 28 args) w:=enters_of Tryz.func28 (by kernel_rfl) rfl
theorem valuesC_any(A A2 A3 A4:Option Addr)(ll cap nl cap2 dl cap3 rl cap4:Nat)(base:ByteArray)(day:Int)(of:ByteArray->Rt × Int)(w W:World)(hF:ValF w W #[.slice A3 dl cap3,.slice A2 nl cap2] (.slice A ll cap) (.slice A4 rl cap4) base day)(c:ByteArray)
  (hc:∀X,Below w.heap.size w X->Calls Tryz.prog 14 #[.agg #[.slice A3 dl cap3,.slice A2 nl cap2],.slice A ll cap,.slice A4 rl cap4,.string base,.string c,.int .i64 day] X λe X'=>e= .returned (.tuple #[rtE (of c),.int .i64 (of c).2])∧Below X.heap.size X X'):
  Calls Tryz.prog 28 #[.string c,.pointer (some ⟨w.heap.size,0,none⟩),.pointer (some ⟨w.heap.size+1,0,none⟩),.pointer (some ⟨w.heap.size+1+1,0,none⟩),.pointer (some ⟨w.heap.size+1+1+1,0,none⟩),.pointer (some ⟨w.heap.size+1+1+1+1,0,none⟩)] W λe W'=>e= .returned (.tuple #[rtE (of c),.int .i64 (of c).2])∧Below W.heap.size W W':=by
 have hr:=Blk.new W 37 #[.bool false,.string ⟨#[]⟩,.string ⟨#[]⟩];have hb:=below1 W (.cells #[.bool false,.string ⟨#[]⟩,.string ⟨#[]⟩] 37);obtain⟨xa,xb,xc,hx⟩:=rtE_tri (of c);have HC:=hid (hc (W.alloc (.cells #[.bool false,.string ⟨#[]⟩,.string ⟨#[]⟩] 37)) (HBEL_trans hF.be hb));rw[hx]at HC⊢;generalize (of c).2=ee at*;have h1:=hF.below hb;clear hc hx hF;go_enter Tryz.func28,Tryz.ntmps28
 go_upto_region 1 with fail
 have HB:=hid hb;have HR:=hid hr;clear hb hr;generalize W.alloc (.cells #[.bool false,.string ⟨#[]⟩,.string ⟨#[]⟩] 37)=W1 at*;have t0:=h1.t.at0;have t1:=h1.t.at1;have tl:=h1.t.lt;have l0:=h1.l.at0;have l1:=h1.l.lt;have r0:=h1.r.at0;have r1:=h1.r.lt;have b0:=h1.b.at0;have b1:=h1.b.lt;have d0:=h1.d.at0;have d1:=h1.d.lt;clear h1;go_wp2_with fail
 refine HC.out.mono ?_;rintro e W2 ⟨rfl,hb2⟩;have hr2:=HR.out.below hb2 HR.out.lt;have HB2:=hid (HBEL_trans HB.out hb2);clear hb2 HR HB HC t0 t1 tl l0 l1 r0 r1 b0 b1 d0 d1;have q0:=hr2.at0;have q1:=hr2.at1;have q2:=hr2.at2;have g0:=hr2.frozen 0;have g1:=hr2.frozen 1;have g2:=hr2.frozen 2;have gl:=hr2.lt;have HX:=hid hr2;clear hr2;go_wp2_with fail
 have HO:=((HX.out.set_ 0 (.bool xa)).set_ 1 (.string xb)).set_ 2 (.string xc);have r0:=HO.at0;have r1:=HO.at1;have r2:=HO.at2;exact bodyPost_ret (v:= .tuple #[.agg #[.bool xa,.string xb,.string xc],.int .i64 ee]) (by simp[results,Tryz.results28,go_sem,r0,r1,r2]) rfl ⟨rfl,((HB2.out.setCell (p:=⟨W.heap.size,0,none⟩) (Nat.le_refl _) _).setCell (p:=⟨W.heap.size,1,none⟩) (Nat.le_refl _) _).setCell (p:=⟨W.heap.size,2,none⟩) (Nat.le_refl _) _⟩
theorem Tryz.egcontrolC:∀args w,(callFunc 32 args).run Tryz.prog w= .ok (.enter 32 args) w:=enters_of Tryz.func32 (by kernel_rfl) rfl
theorem controlC_any(A A2 A3 A4:Option Addr)(ll cap nl cap2 dl cap3 rl cap4:Nat)(base:ByteArray)(day:Int)(of:ByteArray->Rt × Int)(w W:World)(hF:ValF w W #[.slice A3 dl cap3,.slice A2 nl cap2] (.slice A ll cap) (.slice A4 rl cap4) base day)(c:ByteArray)
  (hc:∀X,Below w.heap.size w X->Calls Tryz.prog 19 #[.agg #[.slice A3 dl cap3,.slice A2 nl cap2],.slice A ll cap,.slice A4 rl cap4,.string base,.string c,.int .i64 day] X λe X'=>e= .returned (.tuple #[rtE (of c),.int .i64 (of c).2])∧Below X.heap.size X X'):
  Calls Tryz.prog 32 #[.string c,.pointer (some ⟨w.heap.size,0,none⟩),.pointer (some ⟨w.heap.size+1,0,none⟩),.pointer (some ⟨w.heap.size+1+1,0,none⟩),.pointer (some ⟨w.heap.size+1+1+1,0,none⟩),.pointer (some ⟨w.heap.size+1+1+1+1,0,none⟩)] W λe W'=>e= .returned (.tuple #[rtE (of c),.int .i64 (of c).2])∧Below W.heap.size W W':=by
 have hr:=Blk.new W 37 #[.bool false,.string ⟨#[]⟩,.string ⟨#[]⟩];have hb:=below1 W (.cells #[.bool false,.string ⟨#[]⟩,.string ⟨#[]⟩] 37);obtain⟨xa,xb,xc,hx⟩:=rtE_tri (of c);have HC:=hid (hc (W.alloc (.cells #[.bool false,.string ⟨#[]⟩,.string ⟨#[]⟩] 37)) (HBEL_trans hF.be hb));rw[hx]at HC⊢;generalize (of c).2=ee at*;have h1:=hF.below hb;clear hc hx hF;go_enter Tryz.func32,Tryz.ntmps32
 go_upto_region 1 with fail
 have HB:=hid hb;have HR:=hid hr;clear hb hr;generalize W.alloc (.cells #[.bool false,.string ⟨#[]⟩,.string ⟨#[]⟩] 37)=W1 at*;have t0:=h1.t.at0;have t1:=h1.t.at1;have tl:=h1.t.lt;have l0:=h1.l.at0;have l1:=h1.l.lt;have r0:=h1.r.at0;have r1:=h1.r.lt;have b0:=h1.b.at0;have b1:=h1.b.lt;have d0:=h1.d.at0;have d1:=h1.d.lt;clear h1;go_wp2_with fail
 refine HC.out.mono ?_;rintro e W2 ⟨rfl,hb2⟩;have hr2:=HR.out.below hb2 HR.out.lt;have HB2:=hid (HBEL_trans HB.out hb2);clear hb2 HR HB HC t0 t1 tl l0 l1 r0 r1 b0 b1 d0 d1;have q0:=hr2.at0;have q1:=hr2.at1;have q2:=hr2.at2;have g0:=hr2.frozen 0;have g1:=hr2.frozen 1;have g2:=hr2.frozen 2;have gl:=hr2.lt;have HX:=hid hr2;clear hr2;go_wp2_with fail
 have HO:=((HX.out.set_ 0 (.bool xa)).set_ 1 (.string xb)).set_ 2 (.string xc);have r0:=HO.at0;have r1:=HO.at1;have r2:=HO.at2;exact bodyPost_ret (v:= .tuple #[.agg #[.bool xa,.string xb,.string xc],.int .i64 ee]) (by simp[results,Tryz.results32,go_sem,r0,r1,r2]) rfl ⟨rfl,((HB2.out.setCell (p:=⟨W.heap.size,0,none⟩) (Nat.le_refl _) _).setCell (p:=⟨W.heap.size,1,none⟩) (Nat.le_refl _) _).setCell (p:=⟨W.heap.size,2,none⟩) (Nat.le_refl _) _⟩
def FoundP(l:List ProdD)(id:ByteArray)(i:Int):Prop:=(∃k,∃hk:k<l.length,i=(k:Int)∧prodOf l id=some l[k])∨(i= -1∧id∉idsP l)
theorem found_is(l:List ProdD)(id:ByteArray):FoundP l id (findP l id):=by
 rcases findP_spec l id with⟨k,hk,hI,-,hp,-⟩|⟨hI,-,hn⟩
 ·exact Or.inl ⟨k,hk,hI,hp⟩
 ·exact Or.inr ⟨hI,hn⟩
theorem prod_at{Z:Zone}{w:World}{A:Option Addr}{l:List ProdD}(hs:SeqR (λcs p=>ProdR Z w cs p) 5 Z w l A)(hz:∀b,Z b->b<w.heap.size){k:Nat}(hk:k<l.length):
  ∃pb poff CA ccap PA pcap,A=some ⟨pb,poff,none⟩∧Ints Z w (.slice CA l[k].cas.length ccap) l[k].cas ∧Comps Z w (.slice PA l[k].parts.length pcap) l[k].parts ∧l[k].fit ∧
   ∀W,Below w.heap.size w W->W.cell? ⟨pb,poff+k*5,none⟩=some (.string l[k].id)∧W.cell? ⟨pb,poff+k*5+1,none⟩=some (.slice CA l[k].cas.length ccap)∧W.cell? ⟨pb,poff+k*5+2,none⟩=some (.string l[k].cur)∧
    W.cell? ⟨pb,poff+k*5+3,none⟩=some (.int .i64 l[k].units)∧W.cell? ⟨pb,poff+k*5+4,none⟩=some (.slice PA l[k].parts.length pcap):=by
 obtain⟨b,off,cs,rfl,hzb,hc,hr⟩:=hs.at_ hk;obtain⟨CA,ccap,PA,pcap,rfl,h1,h2,h3⟩:=hr.form2;refine⟨b,off,CA,ccap,PA,pcap,rfl,h1,h2,h3,λW hW=> ?_⟩;have hcb:=cells_below hW (hz b hzb) hc;exact⟨hcb 0 _ rfl,hcb 1 _ rfl,hcb 2 _ rfl,hcb 3 _ rfl,hcb 4 _ rfl⟩
theorem cnt_check{t:TarD}{l:List ProdD}(h:checkP t l=0){k:Nat}(hk:k<l.length):∀c∈l[k].parts,-10000≤c.cnt∧c.cnt≤10000:=λc hc=>by
 have:=cntOk_of_check h l[k] (List.getElem_mem hk) c hc;omega
end
end Go.Proofs.YtaedcjcdpckkaaaGreatDoor
