/- Texts V22 W63 W70 W73. -/
import Derived.Test.YtonmdbdopchkaaaGreatDoorM44
import Derived.Test.YtonmdbdopchkaaaGreatDoorM45
set_option linter.all false
namespace Go.Proofs.YtonmdbdopchkaaaGreatDoor
open Go.RowKit
set_option maxHeartbeats 8000000
set_option maxRecDepth 100000
theorem zPY{ds:List zC}{g:List zB}(hv:zAp ds g):zDR ds g=if live g 0=true then some (zAu g (ds.length+1) 0 (zBA ds)).2 else none:=by
 have hl:=zBn hv.dom;have hf:Fit ds (zBA ds):=by rw[zCm hv.dom];exact hl.least
 by_cases hlv:live g 0=true
 ·obtain⟨a1,_⟩:=zHA hl hv.good (ds.length+1) 0 (zBA ds) 0 hv.rng (by have:=zCG (ds:=ds) (g:=g) 0;omega) hlv hf (λhk=>(hv.good.inner hv.rng hk).f0) (λj _ hj=>zJW hv.dom j hj);unfold zDR;rw[if_pos (zAk.2 hv),if_pos a1,if_pos hlv]
 ·rw[if_neg hlv]
  cases e:zDR ds g with
  |none=>rfl
  |some p=>
   obtain⟨-,-,h,-⟩:=zOw e;rw[zRS hv.good (by simpa using hlv)]at h;cases h
theorem VB.onB{w W W':World}{G D:Value}{B:Nat}(h:VB w W G D)(hB:w.heap.size+1<B)(hBW:B≤W.heap.size)(hb:Below B W W'):VB w W' G D:=
 ⟨h.1.below hb (by omega),h.2.1.below hb hB,h.2.2.trans (hb.mono (by omega))⟩
theorem zOP(Z:zD)(vg vd:Value)(g:List zB)(ds:List zC)(w:World)(hg:zO Z w vg g)(hd:Facts Z w vd ds)(hz:∀b,Z b->b<w.heap.size):
  Calls Tryz.prog 12 #[.agg #[vg],.agg #[vd]] w (zMU w (zDR ds g)):=by
 have HV:=hid (λW(hW:Below w.heap.size w W)=>zDh Z vg vd g ds W (hg.keep (.of_below hW)) (hd.keep (.of_below hW)) (λb hb=>Nat.lt_of_lt_of_le (hz b hb) hW.size));obtain⟨G,gcap,rfl,-,-,-⟩:=hg.open_;obtain⟨D,dcap,rfl,-,-,hdat⟩:=hd.open_;have HD:=hid hdat;have HU:=hid (show zDR ds g=if zAB ds g=true then(if(nAt g (zAu g (ds.length+1) 0 (zBA ds)).1).leaf =true then some (zAu g (ds.length+1) 0 (zBA ds)).2 else none)else none from rfl);have HB0:=hid (VB.new w (.slice G g.length gcap) (.slice D ds.length dcap));have HG:=hid hg;clear hdat hg hd hz;go_enter Tryz.func12,Tryz.ntmps12
 go_wp2_with fail
 generalize (w.alloc (.cells #[.slice G g.length gcap] 30)).alloc (.cells #[.slice D ds.length dcap] 27)=w0 at*;refine(HV.out _ HB0.out.2.2).mono ?_;rintro e w1 ⟨rfl,hb1⟩;have HB:=hid (HB0.out.on hb1);clear HB0 hb1 HV;cases hv:zAB ds g
 ·have HQ:=hid (HU.out.trans (if_neg (λh=>by rw[hv]at h;cases h)));clear hv;go_wp2;refine bodyPost_ret (v:= .tuple #[.slice none 0 0,.bool false]) (by simp[results,Tryz.results12,go_sem]) rfl ?_;rw[HQ.out];exact⟨_,rfl,zL.nil _ _,HB.out.2.2⟩
 have hval:=zAk.1 hv;have zEZ:=hid hval;have HU2:=hid (zPY hval)
 have zW7:=hid (show ∀x∈ds,I64 x.lo from λx hx=>by
  obtain⟨j,hj,rfl⟩:=List.getElem_of_mem hx;obtain⟨_,_,_,_,_,_,_,_,_,hf⟩:=HD.out j hj
  exact hf.2.2.1)
 have hdl:=zAd hval.dom;have HLO:=hid (show zBA ds=ds.map zC.lo from zCm hval.dom);clear hv hval HU;go_wp2;have hown0:=zFx (w:=w1) (B:=w1.heap.size) (Nat.le_refl _) 3;have HB1:=hid (HB.out.on (zE w1 (.cells #[] 3)));have HW1:=hid (zE w1 (.cells #[] 3));generalize w1.alloc (.cells #[] 3)=w2 at*;go_loopw[6,7] (λcv ix wr=>∃(k:Nat)(v:Value),k≤ds.length∧ix= .int .i64 k∧v=cv∧Hid (VB w wr (.slice G g.length gcap) (.slice D ds.length dcap))∧Hid (wr.ownsRow w1.heap.size 3 1 v k (((ds.take k).map zC.lo).map (.int .i64)))∧Hid (w1.heap.size≤wr.heap.size)) (λ_ ix _=>ds.length-(intOf ix).toNat);case atStart=>exact⟨0,_,Nat.zero_le _,rfl,rfl,HB1,hid (by simpa using hown0),hid HW1.out.size⟩
 case round=>
  obtain⟨k,v,hk,rfl,rfl,hvb,hown,hsz⟩:=hrel;have d0:=hvb.out.2.1.at0;have dl:=hvb.out.2.1.lt;by_cases hlt:k<ds.length
  ·obtain⟨db,doff,rfl,hdz,hdb,-,-,d2,d3,hfit⟩:=HD.out k hlt;have d2r:=brd hvb.out.2.2 d2 hdb;have d2l:=lt_of_cell d2r;have htk:ds.take (k+1)=ds.take k++[ds[k]]:=List.take_succ_eq_append_getElem hlt;have HTK:=hid htk;(have hk1:((k:Nat):Int)<(ds.length:Int):=by omega);(have hk0:(0:Int)≤((k:Nat):Int):=by omega);(have hk60:k≤100:=by omega);clear hdz hdb d2 d3 hfit htk;generalize ds[k]=x at*;go_wp2_with(at_builtin;refine zf rfl (.tmp 21) (.tmp 28) _ rfl Tryz.underlying32 Tryz.eInt rfl (hown.out.alloc _) rfl (news:=[.int .i64 x.lo]) rfl (one_cell (by simp)) (by simp[Value.oneCell']) (by unfold maxLen;omega) (by omega) (by have:=hsz.out;simp;omega) ?_;intro v5 w5 hown5 hg5 hat5);have hbel5:Below w1.heap.size wr w5:=zx ((Below.refl _ _).alloc hsz.out _) (hown.out.alloc _) hg5 (by have:=hsz.out;simp;omega) (Nat.le_refl _);have HVB:=hid (hvb.out.onB HB.out.2.1.lt hsz.out hbel5);have zLu:=hid (show w5.ownsRow w1.heap.size 3 1 v5 (k+1) (((ds.take (k+1)).map zC.lo).map (.int .i64)) from by rw[HTK.out];simpa using hown5);have HSZ:=hid (show w1.heap.size≤w5.heap.size from by have:=hsz.out;have:=hbel5.size;omega);clear hown5 hg5 hat5 hbel5 d0 dl d2r d2l;go_wp2;go_roundw;(case rel=>exact⟨k+1,_,by omega,by go_num,rfl,HVB,zLu,HSZ⟩);case measure=>simp[intOf];omega
  ·(obtain rfl:k=ds.length:=by omega);rw[List.take_length]at hown
   have HOI:=hid (show zL (λb=>w1.heap.size≤b) wr v (ds.map zC.lo) from zL.of_own hown.out (λy hy=>by
    obtain⟨x,hx,rfl⟩:=List.mem_map.1 hy
    exact zW7.out x hx) (by rw[List.length_map];omega))
   have g0:=hvb.out.1.at0;have gl:=hvb.out.1.lt;have zN:=hid (zNV (zBn zEZ.out.dom) zEZ.out.good zEZ.out.len (by omega) G D gcap ds.length dcap (ds.length+1) 0 (ds.map zC.lo) Z (λb=>w1.heap.size≤b) v wr (by have:=zCG (ds:=ds) (g:=g) 0;omega) zEZ.out.rng (by rw[List.length_map]) (HG.out.keep (.of_below hvb.out.2.2)) HOI.out);have HVB:=hid hvb.out;rw[HLO.out]at HU2;clear hown hvb;(go_wp2_with fail);refine zN.out.mono ?_;rintro e w8 ⟨v8,rfl,hv8,hb8⟩;have HB8:=hid (HVB.out.2.2.trans (hb8.mono HVB.out.2.2.size));have HV8:=hid hv8;have HS1:=hid (And.intro HB.out.2.2.size HVB.out.2.2.size);clear hv8 hb8 g0 gl d0 dl;cases hlv:live g 0
   ·have HQ:=hid (HU2.out.trans (if_neg (λh=>by rw[hlv]at h;cases h)));clear hlv;go_wp2;refine bodyPost_ret (v:= .tuple #[.slice none 0 0,.bool false]) (by simp[results,Tryz.results12,go_sem]) rfl ?_;rw[HQ.out];exact⟨_,rfl,zL.nil _ _,HB8.out⟩
   ·have HQ:=hid (HU2.out.trans (if_pos hlv));have HV9:=hid (HV8.out hlv);clear hlv HV8;go_wp2;refine bodyPost_ret (v:= .tuple #[v8,.bool true]) (by simp[results,Tryz.results12,go_sem]) rfl ?_;rw[HQ.out];exact⟨_,rfl,HV9.out.mono λb hb=>by have h:=HS1.out;rcases hb with hb|hb<;>omega,HB8.out⟩
theorem zBC{P:Program}{ops:Array Oper}{Q:Exit->Act->World->Prop}{md:Region.Mode}{S:World->Prop}{s i:Nat}{o:Oper}{fuel:Nat}{listed:Array Bool}{a:Act}{w:World}(hr:Region.ready md ops listed=[i])(ho:ops[i]? =some o)(hg:Region.wanted o (yielded ops a.tmps)=true)
  (h:∀K:Act->World->Prop,(∀a' w',((listed.setIfInBounds i true).getD s true=true∨S w')->wpAnyS P md ops Q S s fuel (listed.setIfInBounds i true) a' w'->K a' w')->Oper.wp P o a w K Q):wpAnyS P md ops Q S s (fuel+1) listed a w:=by
 refine⟨λh0=>(by rw[hr]at h0;cases h0),λj hj=> ?_⟩;rw[hr]at hj;simp at hj;subst hj;unfold wpOp;rw[ho];simp only;rw[if_pos hg];exact Or.inl (h _ λa' w' h1 h2=>⟨h1,h2⟩)
theorem zQx{f:Fm}{ds:List zC}(h:zCJ f ds=true):zJ f≤250:=by
 unfold zCJ at h;simp only[Bool.and_eq_true,decide_eq_true_eq]at h;exact h.1
structure Lw (w0 w:World) (A:Option Addr) (cap:Nat) (D:Option Addr) (dcap:Nat) (f:Fm) (ds:List zC) (c:List Int) (vc:Value) (Z:zD):Prop where
 fb:Blk w w0.heap.size 24 #[.int .i64 f.op,.string f.name,.int .i64 f.cmp,.int .i64 f.num,.slice A f.kids.length cap]
 db:Blk w (w0.heap.size+1) 27 #[.slice D ds.length dcap]
 fm:FmR Z w f [.int .i64 f.op,.string f.name,.int .i64 f.cmp,.int .i64 f.num,.slice A f.kids.length cap]
 fs:Facts Z w (.slice D ds.length dcap) ds
 ci:zL Z w vc c
 below:Below w0.heap.size w0 w
 tab:zBJ w.heap.size w
 zone:∀b,Z b->b<w.heap.size
theorem Lw.on{w0 w w':World}{A:Option Addr}{cap:Nat}{D:Option Addr}{dcap:Nat}{f:Fm}{ds:List zC}{c:List Int}{vc:Value}{Z:zD}(h:Lw w0 w A cap D dcap f ds c vc Z)(hb:Below w.heap.size w w'):Lw w0 w' A cap D dcap f ds c vc Z:=
 ⟨h.fb.below hb h.fb.lt,h.db.below hb h.db.lt,FmR.keep (.of_below hb) _ _ h.fm,h.fs.keep (.of_below hb),h.ci.keep (.of_below hb),h.below.trans (hb.mono h.below.size),(h.tab.on hb).mono hb.size,λb hz=>Nat.lt_of_lt_of_le (h.zone b hz) hb.size⟩
theorem Lw.start{Z:zD}{f:Fm}{ds:List zC}{c:List Int}{w:World}{A:Option Addr}{cap:Nat}{D:Option Addr}{dcap:Nat}{vc:Value}(hf:FmR Z w f [.int .i64 f.op,.string f.name,.int .i64 f.cmp,.int .i64 f.num,.slice A f.kids.length cap])(hd:Facts Z w (.slice D ds.length dcap) ds)(hc:zL Z w vc c)(hz:∀b,Z b->b<w.heap.size)(htab:zBJ w.heap.size w):
  Lw w ((w.alloc (.cells #[.int .i64 f.op,.string f.name,.int .i64 f.cmp,.int .i64 f.num,.slice A f.kids.length cap] 24)).alloc (.cells #[.slice D ds.length dcap] 27)) A cap D dcap f ds c vc Z:=by
 have hb2:=(zE w (.cells #[.int .i64 f.op,.string f.name,.int .i64 f.cmp,.int .i64 f.num,.slice A f.kids.length cap] 24)).alloc (by simp) (.cells #[.slice D ds.length dcap] 27);exact⟨(Blk.new w _ _).alloc _,Blk.new' _ _ _ (by simp),FmR.keep (.of_below hb2) _ _ hf,hd.keep (.of_below hb2),hc.keep (.of_below hb2),hb2,(htab.on hb2).mono hb2.size,λb h=>Nat.lt_of_lt_of_le (hz b h) hb2.size⟩
structure Dw (w0 w:World) (va vb vd:Value) (a b:List zB) (ds:List zC) (Z:zD):Prop where
 ab:Blk w w0.heap.size 30 #[va]
 bb:Blk w (w0.heap.size+1) 30 #[vb]
 db:Blk w (w0.heap.size+1+1) 27 #[vd]
 na:zO Z w va a
 nb:zO Z w vb b
 fs:Facts Z w vd ds
 below:Below w0.heap.size w0 w
 tab:zBJ w.heap.size w
 zone:∀b,Z b->b<w.heap.size
theorem Dw.on{w0 w w':World}{va vb vd:Value}{a b:List zB}{ds:List zC}{Z:zD}(h:Dw w0 w va vb vd a b ds Z)(hb:Below w.heap.size w w'):Dw w0 w' va vb vd a b ds Z:=
 ⟨h.ab.below hb h.ab.lt,h.bb.below hb h.bb.lt,h.db.below hb h.db.lt,h.na.keep (.of_below hb),h.nb.keep (.of_below hb),h.fs.keep (.of_below hb),h.below.trans (hb.mono h.below.size),(h.tab.on hb).mono hb.size,λb hz=>Nat.lt_of_lt_of_le (h.zone b hz) hb.size⟩
theorem Dw.start{Z:zD}{w:World}{va vb vd:Value}{a b:List zB}{ds:List zC}(ha:zO Z w va a)(hb:zO Z w vb b)(hd:Facts Z w vd ds)(hz:∀b,Z b->b<w.heap.size)(htab:zBJ w.heap.size w):
  Dw w (((w.alloc (.cells #[va] 30)).alloc (.cells #[vb] 30)).alloc (.cells #[vd] 27)) va vb vd a b ds Z:=by
 have hb3:=((zE w (.cells #[va] 30)).alloc (by simp) (.cells #[vb] 30)).alloc (by simp;omega) (.cells #[vd] 27);exact⟨((Blk.new w _ _).alloc _).alloc _,(Blk.new' (w.alloc (.cells #[va] 30)) _ _ (by simp)).alloc _,Blk.new' ((w.alloc (.cells #[va] 30)).alloc (.cells #[vb] 30)) _ _ (by simp),ha.keep (.of_below hb3),hb.keep (.of_below hb3),hd.keep (.of_below hb3),hb3,(htab.on hb3).mono hb3.size,λb h=>Nat.lt_of_lt_of_le (hz b h) hb3.size⟩
theorem zPZ(Z:zD)(va vb vd:Value)(a b:List zB)(ds:List zC)(w:World)(ha:zO Z w va a)(hb:zO Z w vb b)(hd:Facts Z w vd ds)(hz:∀b,Z b->b<w.heap.size)(htab:zBJ w.heap.size w)(hv:zAB ds a=false∨zAB ds b=false):
  Calls Tryz.prog 9 #[.agg #[va],.agg #[vb],.agg #[vd]] w λe w'=>e= .returned (.tuple #[.agg #[.slice none 0 0],.int .i64 1])∧Below w.heap.size w w':=by
 obtain⟨AA,acap,rfl,-,-,-⟩:=ha.open_;obtain⟨AB,bcap,rfl,-,-,-⟩:=hb.open_;obtain⟨D,dcap,rfl,-,-,-⟩:=hd.open_;have HL:=hid (Dw.start ha hb hd hz htab);clear ha hb hd hz htab;go_enter Tryz.func9,Tryz.ntmps9
 have HR:=hid (Blk.new' (((w.alloc (.cells #[.slice AA a.length acap] 30)).alloc (.cells #[.slice AB b.length bcap] 30)).alloc (.cells #[.slice D ds.length dcap] 27)) 30 #[.slice none 0 0] (n:=w.heap.size+1+1+1) (by simp));replace HL:=hid (HL.out.on ((zE _ (.cells #[.slice none 0 0] 30)).mono (Nat.le_refl _)));go_upto_region 1 with fail
 generalize (((w.alloc (.cells #[.slice AA a.length acap] 30)).alloc (.cells #[.slice AB b.length bcap] 30)).alloc (.cells #[.slice D ds.length dcap] 27)).alloc (.cells #[.slice none 0 0] 30)=w1 at*;have a0:=HL.out.ab.at0;have al:w.heap.size<w1.heap.size:=HL.out.ab.lt;have b0:=HL.out.bb.at0;have bl:w.heap.size+1<w1.heap.size:=HL.out.bb.lt;have d0:=HL.out.db.at0;have dl:w.heap.size+1+1<w1.heap.size:=HL.out.db.lt;have r0:=HR.out.at0;have rl:w.heap.size+1+1+1<w1.heap.size:=HR.out.lt;by_cases hva:zAB ds a=true
 ·have HVA:=hid hva;have HVB:=hid (show zAB ds b=false from by rcases hv with h|h<;>first|exact h|(rw[hva]at h;cases h));clear hva hv;have HC:=hid (zBy Z (.slice AA a.length acap) (.slice D ds.length dcap) a ds _ HL.out.na HL.out.fs HL.out.tab);rw[HVA.out]at HC;go_wp2_with fail
  refine HC.out.mono ?_;rintro e w2 ⟨rfl,hb⟩;replace HL:=hid (HL.out.on hb);replace HR:=hid (HR.out.below hb HR.out.lt);clear hb HC a0 al b0 bl d0 dl r0 rl;have a0:=HL.out.ab.at0;have al:w.heap.size<w2.heap.size:=HL.out.ab.lt;have b0:=HL.out.bb.at0;have bl:w.heap.size+1<w2.heap.size:=HL.out.bb.lt;have d0:=HL.out.db.at0;have dl:w.heap.size+1+1<w2.heap.size:=HL.out.db.lt;have r0:=HR.out.at0;have rl:w.heap.size+1+1+1<w2.heap.size:=HR.out.lt;have rz:w2.frozen? ⟨w.heap.size+1+1+1,0,none⟩=false:=HR.out.frozen 0;have HC:=hid (zBy Z (.slice AB b.length bcap) (.slice D ds.length dcap) b ds _ HL.out.nb HL.out.fs HL.out.tab);rw[HVB.out]at HC;go_wp2_with fail
  refine HC.out.mono ?_;rintro e w3 ⟨rfl,hb⟩;replace HL:=hid (HL.out.on hb);replace HR:=hid (HR.out.below hb HR.out.lt);clear hb HC a0 al b0 bl d0 dl r0 rl rz;have a0:=HL.out.ab.at0;have al:w.heap.size<w3.heap.size:=HL.out.ab.lt;have b0:=HL.out.bb.at0;have bl:w.heap.size+1<w3.heap.size:=HL.out.bb.lt;have d0:=HL.out.db.at0;have dl:w.heap.size+1+1<w3.heap.size:=HL.out.db.lt;have r0:=HR.out.at0;have rl:w.heap.size+1+1+1<w3.heap.size:=HR.out.lt;have rz:w3.frozen? ⟨w.heap.size+1+1+1,0,none⟩=false:=HR.out.frozen 0;have r9:(w3.setCell ⟨w.heap.size+1+1+1,0,none⟩ (.slice none 0 0)).cell? ⟨w.heap.size+1+1+1,0,none⟩=some (.slice none 0 0):=(HR.out.set_ 0 _).cell 0;have R9:=hid r9;clear r9;go_wp2_with fail
  exact bodyPost_ret (v:= .tuple #[.agg #[.slice none 0 0],.int .i64 1]) (by simp[results,Tryz.results9,go_sem,R9.out]) rfl ⟨rfl,(HL.out.below.setCell (by simp;omega) _)⟩
 ·have HVA:=hid (show zAB ds a=false from by simpa using hva);clear hva hv;have HC:=hid (zBy Z (.slice AA a.length acap) (.slice D ds.length dcap) a ds _ HL.out.na HL.out.fs HL.out.tab);rw[HVA.out]at HC;go_wp2_with fail
  refine HC.out.mono ?_;rintro e w2 ⟨rfl,hb⟩;replace HL:=hid (HL.out.on hb);replace HR:=hid (HR.out.below hb HR.out.lt);clear hb HC a0 al b0 bl d0 dl r0 rl;have a0:=HL.out.ab.at0;have al:w.heap.size<w2.heap.size:=HL.out.ab.lt;have b0:=HL.out.bb.at0;have bl:w.heap.size+1<w2.heap.size:=HL.out.bb.lt;have d0:=HL.out.db.at0;have dl:w.heap.size+1+1<w2.heap.size:=HL.out.db.lt;have r0:=HR.out.at0;have rl:w.heap.size+1+1+1<w2.heap.size:=HR.out.lt;have rz:w2.frozen? ⟨w.heap.size+1+1+1,0,none⟩=false:=HR.out.frozen 0;have r9:(w2.setCell ⟨w.heap.size+1+1+1,0,none⟩ (.slice none 0 0)).cell? ⟨w.heap.size+1+1+1,0,none⟩=some (.slice none 0 0):=(HR.out.set_ 0 _).cell 0;have R9:=hid r9;clear r9;go_wp2_with fail
  exact bodyPost_ret (v:= .tuple #[.agg #[.slice none 0 0],.int .i64 1]) (by simp[results,Tryz.results9,go_sem,R9.out]) rfl ⟨rfl,(HL.out.below.setCell (by simp;omega) _)⟩
structure AV where
 Dv:Nat
 Av:Nat
 Bv:Nat
 Fv:Nat
 Mv:Nat
 Gv:Nat
 M:Nat
 db:Nat
def AV.var(c:AV)(b:Nat):Prop:=b=c.Dv∨b=c.Av∨b=c.Bv∨b=c.Fv∨b=c.Mv∨b=c.Gv
def AV.fn(c:AV):Value:= .func (.func 43) #[] #[.pointer (some ⟨c.Dv,0,none⟩),.pointer (some ⟨c.Av,0,none⟩),.pointer (some ⟨c.Bv,0,none⟩),.pointer (some ⟨c.Fv,0,none⟩),.pointer (some ⟨c.Mv,0,none⟩),.pointer (some ⟨c.Gv,0,none⟩)]
abbrev AV.args(c:AV)(x y:Int):Array Value:=#[.int .i64 x,.int .i64 y,.pointer (some ⟨c.Dv,0,none⟩),.pointer (some ⟨c.Av,0,none⟩),.pointer (some ⟨c.Bv,0,none⟩),.pointer (some ⟨c.Fv,0,none⟩),.pointer (some ⟨c.Mv,0,none⟩),.pointer (some ⟨c.Gv,0,none⟩)]
def AV.kept(c:AV)(F:zD):zD:=λb=>¬F b∧b≠c.db
structure AnW (c:AV) (va vb vd:Value) (w:World) (st:ASt) (F Z:zD):Prop where
 dv:One w c.Dv (.map (some c.db))
 av:One w c.Av va
 bv:One w c.Bv vb
 fv:One w c.Fv vd
 mv:One w c.Mv (.pointer (some ⟨c.M,0,none⟩))
 gv:One w c.Gv c.fn
 mkr:MkS w c.M st.all F Z
 done:zu zEF w c.db (kvA st.done)
 var:∀b,c.var b->c.kept F b
 dF:¬F c.db
 dZ:¬Z c.db
section anw
variable {c:AV} {va vb vd:Value} {w w' W:World} {st:ASt} {F Z F' Z':zD}
theorem AnW.keep(h:AnW c va vb vd w st F Z)(hk:zA (λb=>F b∨Z b∨c.var b∨b=c.db) w w'):AnW c va vb vd w' st F Z:=by
 have v:∀b,c.var b->(λb=>F b∨Z b∨c.var b∨b=c.db) b:=λb hb=>Or.inr (Or.inr (Or.inl hb))
 exact⟨h.dv.keep hk (v _ (Or.inl rfl)),h.av.keep hk (v _ (Or.inr (Or.inl rfl))),h.bv.keep hk (v _ (Or.inr (Or.inr (Or.inl rfl)))),h.fv.keep hk (v _ (Or.inr (Or.inr (Or.inr (Or.inl rfl))))),
  h.mv.keep hk (v _ (Or.inr (Or.inr (Or.inr (Or.inr (Or.inl rfl)))))),h.gv.keep hk (v _ (Or.inr (Or.inr (Or.inr (Or.inr (Or.inr rfl)))))),h.mkr.keep (hk.mono λb _ hb=>hb.imp id Or.inl),h.done.of_block (hk.block c.db h.done.lt (Or.inr (Or.inr (Or.inr rfl)))),h.var,h.dF,h.dZ⟩
theorem AnW.below(h:AnW c va vb vd w st F Z)(hb:Below w.heap.size w w'):AnW c va vb vd w' st F Z:=h.keep (.of_below hb)
theorem AnW.lt(h:AnW c va vb vd w st F Z):(∀b,c.var b->b<w.heap.size)∧c.db<w.heap.size:=
 ⟨λb hb=>by rcases hb with rfl|rfl|rfl|rfl|rfl|rfl;exact h.dv.lt;exact h.av.lt;exact h.bv.lt;exact h.fv.lt;exact h.mv.lt;exact h.gv.lt,h.done.lt⟩
theorem AnW.made(h:AnW c va vb vd w st F Z)(hb:Below w.heap.size w W){all:List zB}(hm:MkS w' c.M all F' Z')(hF:∀b,F' b->F b∨W.heap.size≤b)(hZ:∀b,Z' b->Z b∨W.heap.size≤b)(hk:zA (λb=>¬F b) W w'):AnW c va vb vd w' ⟨all,st.done⟩ F' Z':=by
 have h':=h.below hb;have hl:=h.lt;have hs:=hb.size;have v:=λb hb=>(h.var b hb).1
 refine⟨h'.dv.keep hk (v _ (Or.inl rfl)),h'.av.keep hk (v _ (Or.inr (Or.inl rfl))),h'.bv.keep hk (v _ (Or.inr (Or.inr (Or.inl rfl)))),h'.fv.keep hk (v _ (Or.inr (Or.inr (Or.inr (Or.inl rfl))))),
  h'.mv.keep hk (v _ (Or.inr (Or.inr (Or.inr (Or.inr (Or.inl rfl)))))),h'.gv.keep hk (v _ (Or.inr (Or.inr (Or.inr (Or.inr (Or.inr rfl)))))),hm,
  h'.done.of_block (hk.block c.db h'.done.lt h.dF),λb hb=>⟨λhf=> ?_,(h.var b hb).2⟩,λhf=> ?_,λhf=> ?_⟩
 ·rcases hF b hf with hf|hf
  ·exact(h.var b hb).1 hf
  ·have:=hl.1 b hb;omega
 ·rcases hF _ hf with hf|hf
  ·exact h.dF hf
  ·omega
 ·rcases hZ _ hf with hf|hf
  ·exact h.dZ hf
  ·omega
theorem AnW.setDone(h:AnW c va vb vd w st F Z){d:List ((Int × Int) × Int)}(hm:zu zEF w' c.db (kvA d))(hk:zA (λb=>b≠c.db) w w'):AnW c va vb vd w' ⟨st.all,d⟩ F Z:=by
 have v:=λb hb=>(h.var b hb).2
 exact⟨h.dv.keep hk (v _ (Or.inl rfl)),h.av.keep hk (v _ (Or.inr (Or.inl rfl))),h.bv.keep hk (v _ (Or.inr (Or.inr (Or.inl rfl)))),h.fv.keep hk (v _ (Or.inr (Or.inr (Or.inr (Or.inl rfl))))),
  h.mv.keep hk (v _ (Or.inr (Or.inr (Or.inr (Or.inr (Or.inl rfl)))))),h.gv.keep hk (v _ (Or.inr (Or.inr (Or.inr (Or.inr (Or.inr rfl)))))),h.mkr.keep (hk.mono λb _ hb e=>by subst e;rcases hb with hb|hb;exact h.dF hb;exact h.dZ hb),hm,h.var,h.dF,h.dZ⟩
end anw
def zHS(c:AV)(va vb vd:Value)(w:World)(F Z:zD)(r:Int × ASt)(e:Ending)(w':World):Prop:=
 e= .returned (.int .i64 r.1)∧(∃F' Z',AnW c va vb vd w' r.2 F' Z'∧(∀b,F' b->F b∨w.heap.size≤b)∧(∀b,Z' b->Z b∨w.heap.size≤b))∧zA (c.kept F) w w'
structure zEV (c:AV) (va vb vd:Value) (a b:List zB) (ds:List zC) (Zn:zD) (B0:Nat) (w:World) (st:ASt) (F Z:zD):Prop where
 mem:AnW c va vb vd w st F Z
 na:zO Zn w va a
 nb:zO Zn w vb b
 fs:Facts Zn w vd ds
 off:∀x,Zn x->c.kept F x∧x<w.heap.size
 tab:zBJ B0 w
 base:B0≤w.heap.size∧(∀x,F x->B0≤x)∧B0≤c.db
 wst:zFa st
 len:inn st.all≤4000+ds.length
 ga:zAp ds a
 gb:zAp ds b
section anin
variable {c:AV} {va vb vd:Value} {a b:List zB} {ds:List zC} {Zn:zD} {B0:Nat} {w w' W:World} {st:ASt} {F Z:zD}
theorem zEV.all_len(h:zEV c va vb vd a b ds Zn B0 w st F Z):st.all.length≤4062:=by
 have h1:=h.wst.tab.len;have h2:=h.len;have h3:=zAd h.ga.dom;omega
theorem zEV.belowB(h:zEV c va vb vd a b ds Zn B0 w st F Z){W:World}(hk:zA (c.kept F) w W):Below B0 w W:=
 ⟨hk.os,hk.tape,hk.output,hk.size,λb hb=>hk.block b (by have:=h.base.1;omega) ⟨λhf=>by have:=h.base.2.1 b hf;omega,by have:=h.base.2.2;omega⟩⟩
theorem zEV.tabAt(h:zEV c va vb vd a b ds Zn B0 w st F Z){W:World}(hk:zA (c.kept F) w W):zBJ W.heap.size W:=
 (h.tab.on (h.belowB hk)).mono (by have:=h.base.1;have:=hk.size;omega)
theorem zEV.node(h:zEV c va vb vd a b ds Zn B0 w st F Z)(l:Bool){W:World}(hW:Below w.heap.size w W):
  Calls Tryz.prog 30 #[.pointer (some ⟨c.M,0,none⟩),.agg #[.bool l,.int .i64 0,.slice none 0 0,.slice none 0 0]] W (zCC W c.M F (λb=>Z b∨False) (zW st.all ⟨l,0,[],[]⟩)):=
 zGH c.M st.all F Z (λ_=>False) ⟨l,0,[],[]⟩ [.bool l,.int .i64 0,.slice none 0 0,.slice none 0 0] W (h.mem.mkr.below hW) (zLj W F l) (by have:=h.all_len;omega) (h.tabAt (.of_below hW))
theorem zUY{W:World}{l:Bool}{e:Ending}(h:AnW c va vb vd w st F Z)(hb:Below w.heap.size w W)(hp:zCC W c.M F (λb=>Z b∨False) (zW st.all ⟨l,0,[],[]⟩) e w'):
  zHS c va vb vd w F Z ((zW st.all ⟨l,0,[],[]⟩).1,⟨(zW st.all ⟨l,0,[],[]⟩).2,st.done⟩) e w':=by
 obtain⟨he,⟨F',h1,h2⟩,h3⟩:=hp;have hs:=hb.size;refine⟨he,⟨F',_,h.made hb h1 h2 (λb hb=>hb.imp id λh=>h.elim) h3,λb hb=>(h2 b hb).imp id λh=>by omega,λb hb=>hb.imp id λh=>h.elim⟩,(zA.of_below hb).trans (h3.mono λb _ hb=>hb.1)⟩
theorem Tryz.keyP:zGr Tryz.prog 89 zEF:=by
 obtain⟨i,hi⟩:=info_of_underlying Tryz.underlying3;exact zQH Tryz.underlying89 Tryz.underlying3 hi (by kernel_rfl) (λw em x=>by unfold zEF;kernel_rfl)
theorem Tryz.lookP{w:World}{b:Nat}{d:List ((Int × Int) × Int)}(h:zu zEF w b (kvA d))(x y:Int):
  (Instr.lookup 87 (.map (some b)) (.agg #[.int .i64 x,.int .i64 y]) true).run Tryz.prog w= .ok (.tuple #[(match kvI d (x,y)with|some v=> .int .i64 v|none=> .int .i64 0),.bool (kvI d (x,y)).isSome]) w:=by
 have h1:=h.look Tryz.keyP (t:=87) (e:=3) Tryz.underlying87 (Tryz.zeroInt w) (x,y) true;rw[zP9,if_pos rfl]at h1;refine Eq.trans h1 ?_;cases kvI d (x,y)<;>rfl
end anin
structure AnL (c:AV) (va vb vd:Value) (w6 wr:World) (F Z:zD) (st':ASt) (kids:List Int) (vk:Value) (F' Z':zD):Prop where
 own:wr.ownsRow w6.heap.size 3 1 vk kids.length (kids.map (.int .i64))
 row:∀b,vk.ownBlock=some b->c.kept F' b∧¬Z' b∧¬c.var b
 mem:AnW c va vb vd wr st' F' Z'
 hF:∀b,F' b->F b∨w6.heap.size≤b
 hZ:∀b,Z' b->Z b∨w6.heap.size≤b
 kept:zA (c.kept F) w6 wr
theorem AnL.start{c:AV}{va vb vd:Value}{w6:World}{F Z:zD}{st:ASt}(h:AnW c va vb vd w6 st F Z):AnL c va vb vd w6 w6 F Z st [] (.slice none 0 0) F Z:=
 ⟨World.ownsRow_nil _ _ _ _,λb hb=>(by cases hb),h,λb hb=>Or.inl hb,λb hb=>Or.inl hb,zA.refl _ _⟩
theorem zEq{c:AV}{F F':zD}{n m:Nat}(h:∀b,F' b->F b∨n≤b){b:Nat}(hb:c.kept F b)(hlt:b<m)(hm:m≤n):c.kept F' b:=
 ⟨λhf=>by
  rcases h b hf with hf|hf
  ·exact hb.1 hf
  ·omega,hb.2⟩
theorem AnL.step{c:AV}{va vb vd:Value}{w6 wr w7 w8 w10:World}{F Z F' Z':zD}{st':ASt}{kids:List Int}{vk v5:Value}{r:Int × ASt}{e:Ending}{o:Obj}(h:AnL c va vb vd w6 wr F Z st' kids vk F' Z')(hb7:Below wr.heap.size wr w7)
  (hp:zHS c va vb vd w7 F' Z' r e w8)(hg:(w8.alloc o).grownBy w10 vk.ownBlock)(ho:w10.ownsRow w6.heap.size 3 1 v5 (kids.length+1) (kids.map (.int .i64)++[.int .i64 r.1]))(hat:v5.ownBlock=vk.ownBlock∨v5.ownBlock=some (w8.alloc o).heap.size):
  ∃F'' Z'',AnL c va vb vd w6 w10 F Z r.2 (kids++[r.1]) v5 F'' Z'':=by
 obtain⟨-,⟨F'',Z'',hm,hF'',hZ''⟩,hk8⟩:=hp;have hs7:=hb7.size;have hs8:=hk8.size;have hlt:=hm.lt;have hvk:∀b,vk.ownBlock=some b->b<wr.heap.size:=λb hb=>(h.own.lt b hb).2
 have hnF:∀b,vk.ownBlock=some b->c.kept F'' b∧¬Z'' b∧¬c.var b:=λb hb=>by
  have h1:=h.row b hb;have h2:=hvk b hb;refine⟨zEq hF'' h1.1 h2 hs7,λhz=> ?_,h1.2.2⟩;rcases hZ'' b hz with hz|hz
  ·exact h1.2.1 hz
  ·omega
 have hmk:=hm.mkr;have hk10:zA (λb=>vk.ownBlock≠some b) w8 w10:=((zA.refl _ _).alloc o).grown hg (λk hk _ hz=>hz hk);refine⟨F'',Z'',by simpa using ho,λb hb=> ?_,hm.keep (hk10.mono λb hlt' hb e=> ?_),λb hb=> ?_,λb hb=> ?_,?_⟩
 ·rcases hat with e|e
  ·rw[e]at hb;exact hnF b hb
  ·rw[e]at hb;injection hb with hb;subst hb;(have hsz:(w8.alloc o).heap.size =w8.heap.size+1:=by simp);rw[hsz];refine⟨⟨λhf=> ?_,?_⟩,λhz=> ?_,λhv=> ?_⟩
   ·have:=hmk.liveF _ hf;omega
   ·have:=hlt.2;omega
   ·have:=hmk.liveZ _ hz;omega
   ·have:=hlt.1 _ hv;omega
 ·have hn:=hnF b e;rcases hb with hb|hb|hb|hb
  ·exact hn.1.1 hb
  ·exact hn.2.1 hb
  ·exact hn.2.2 hb
  ·exact hn.1.2 hb
 ·rcases hF'' b hb with hb|hb
  ·exact h.hF b hb
  ·have:=h.kept.size;exact Or.inr (by omega)
 ·rcases hZ'' b hb with hb|hb
  ·exact h.hZ b hb
  ·have:=h.kept.size;exact Or.inr (by omega)
 ·have hs6:=h.kept.size;have hs10:=hk10.size;refine⟨hk10.os.trans (hk8.os.trans (hb7.os.trans h.kept.os)),hk10.tape.trans (hk8.tape.trans (hb7.tape.trans h.kept.tape)),hk10.output.trans (hk8.output.trans (hb7.output.trans h.kept.output)),by omega,λk hk hz=> ?_⟩;rw[hk10.block k (by omega) (λe=>by have:=(h.own.lt k e).1;omega),hk8.block k (by omega) (zEq h.hF hz hk (Nat.le_refl _)),hb7.block k (by omega),h.kept.block k hk hz]
end Go.Proofs.YtonmdbdopchkaaaGreatDoor
