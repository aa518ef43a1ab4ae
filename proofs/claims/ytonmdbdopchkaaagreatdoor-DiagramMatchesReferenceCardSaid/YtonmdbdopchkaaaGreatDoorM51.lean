/- Texts V27. -/
import Derived.Test.YtonmdbdopchkaaaGreatDoorM50
import Derived.Test.YtonmdbdopchkaaaGreatDoorM48
set_option linter.all false
namespace Go.Proofs.YtonmdbdopchkaaaGreatDoor
open Go.RowKit
set_option maxHeartbeats 16000000
set_option maxRecDepth 100000
structure Mw (w0 w:World) (A:Option Addr) (cap:Nat) (D:Option Addr) (dcap:Nat) (AA:Option Addr) (acap:Nat) (AB:Option Addr) (bcap:Nat) (f:Fm) (ds:List zC) (a b:List zB) (c:List Int) (vc:Value) (Z:zD):Prop where
 fb:Blk w w0.heap.size 24 #[.int .i64 f.op,.string f.name,.int .i64 f.cmp,.int .i64 f.num,.slice A f.kids.length cap]
 db:Blk w (w0.heap.size+1) 27 #[(.slice D ds.length dcap)]
 ab:Blk w (w0.heap.size+1+1) 30 #[(.slice AA a.length acap)]
 bb:Blk w (w0.heap.size+1+1+1) 30 #[(.slice AB b.length bcap)]
 fm:FmR Z w f [.int .i64 f.op,.string f.name,.int .i64 f.cmp,.int .i64 f.num,.slice A f.kids.length cap]
 fs:Facts Z w (.slice D ds.length dcap) ds
 na:zO Z w (.slice AA a.length acap) a
 nb:zO Z w (.slice AB b.length bcap) b
 ci:zL Z w vc c
 below:Below w0.heap.size w0 w
 tab:zBJ w.heap.size w
 zone:∀x,Z x->x<w.heap.size
theorem Mw.on{w0 w w':World}{A:Option Addr}{cap:Nat}{D:Option Addr}{dcap:Nat}{AA:Option Addr}{acap:Nat}{AB:Option Addr}{bcap:Nat}{f:Fm}{ds:List zC}{a b:List zB}{c:List Int}{vc:Value}{Z:zD}(h:Mw w0 w A cap D dcap AA acap AB bcap f ds a b c vc Z)(hb:Below w.heap.size w w'):Mw w0 w' A cap D dcap AA acap AB bcap f ds a b c vc Z:=
 ⟨h.fb.below hb h.fb.lt,h.db.below hb h.db.lt,h.ab.below hb h.ab.lt,h.bb.below hb h.bb.lt,FmR.keep (.of_below hb) _ _ h.fm,h.fs.keep (.of_below hb),h.na.keep (.of_below hb),h.nb.keep (.of_below hb),h.ci.keep (.of_below hb),h.below.trans (hb.mono h.below.size),(h.tab.on hb).mono hb.size,λx hx=>Nat.lt_of_lt_of_le (h.zone x hx) hb.size⟩
theorem zU4(w:World)(o p q r:Obj):Below w.heap.size w ((((w.alloc o).alloc p).alloc q).alloc r):=(zJP w o p q).alloc (by simp;omega) r
theorem Mw.start{w:World}{A:Option Addr}{cap:Nat}{D:Option Addr}{dcap:Nat}{AA:Option Addr}{acap:Nat}{AB:Option Addr}{bcap:Nat}{f:Fm}{ds:List zC}{a b:List zB}{c:List Int}{vc:Value}{Z:zD}(hf:FmR Z w f [.int .i64 f.op,.string f.name,.int .i64 f.cmp,.int .i64 f.num,.slice A f.kids.length cap])(hd:Facts Z w (.slice D ds.length dcap) ds)(ha:zO Z w (.slice AA a.length acap) a)(hb:zO Z w (.slice AB b.length bcap) b)(hc:zL Z w vc c)(hz:∀x,Z x->x<w.heap.size)(htab:zBJ w.heap.size w):Mw w ((((w.alloc (.cells #[.int .i64 f.op,.string f.name,.int .i64 f.cmp,.int .i64 f.num,.slice A f.kids.length cap] 24)).alloc (.cells #[(.slice D ds.length dcap)] 27)).alloc (.cells #[(.slice AA a.length acap)] 30)).alloc (.cells #[(.slice AB b.length bcap)] 30)) A cap D dcap AA acap AB bcap f ds a b c vc Z:=by
 have h4:=zU4 w (.cells #[.int .i64 f.op,.string f.name,.int .i64 f.cmp,.int .i64 f.num,.slice A f.kids.length cap] 24) (.cells #[(.slice D ds.length dcap)] 27) (.cells #[(.slice AA a.length acap)] 30) (.cells #[(.slice AB b.length bcap)] 30)
 exact⟨(((Blk.new w _ _).alloc _).alloc _).alloc _,((Blk.new' (w.alloc (.cells #[.int .i64 f.op,.string f.name,.int .i64 f.cmp,.int .i64 f.num,.slice A f.kids.length cap] 24)) _ _ (by simp)).alloc _).alloc _,(Blk.new' ((w.alloc (.cells #[.int .i64 f.op,.string f.name,.int .i64 f.cmp,.int .i64 f.num,.slice A f.kids.length cap] 24)).alloc (.cells #[(.slice D ds.length dcap)] 27)) _ _ (by simp)).alloc _,Blk.new' (((w.alloc (.cells #[.int .i64 f.op,.string f.name,.int .i64 f.cmp,.int .i64 f.num,.slice A f.kids.length cap] 24)).alloc (.cells #[(.slice D ds.length dcap)] 27)).alloc (.cells #[(.slice AA a.length acap)] 30)) _ _ (by simp),
  FmR.keep (.of_below h4) _ _ hf,hd.keep (.of_below h4),ha.keep (.of_below h4),hb.keep (.of_below h4),hc.keep (.of_below h4),h4,(htab.on h4).mono h4.size,λx hx=>Nat.lt_of_lt_of_le (hz x hx) h4.size⟩
def zHe(w:World)(bx:Nat)(v:Value)(g:List zB):Prop:=Blk w bx 30 #[v]∧zO (λx=>x<w.heap.size) w v g
theorem zHe.on{w w':World}{bx:Nat}{v:Value}{g:List zB}(h:zHe w bx v g)(hb:Below w.heap.size w w'):zHe w' bx v g:=
 ⟨h.1.below hb h.1.lt,(h.2.keep (.of_below hb)).mono λx hx=>Nat.lt_of_lt_of_le hx hb.size⟩
theorem zHe.new{w:World}{v:Value}{g:List zB}{Z:zD}(h:zO Z w v g):zHe (w.alloc (.cells #[v] 30)) w.heap.size v g:=
 ⟨Blk.new w _ _,(h.live.keep ((zA.refl _ _).alloc _)).mono λx hx=>by have:=hx.2;simp;omega⟩
theorem zLD{g:List zB}(h:zKD g 40=true):g.length≤40∧∀q∈g,q.cuts.length≤1000:=by
 unfold zKD at h;simp only[Bool.and_eq_true,decide_eq_true_eq,List.all_eq_true]at h;exact⟨by have:=h.1;omega,λq hq=>by have:=(h.2 q hq).2;omega⟩
theorem zP3(Z:zD)(f:Fm)(cs:List Value)(vd va vb vc:Value)(ds:List zC)(a b:List zB)(c:List Int)(w:World)(hf:FmR Z w f cs)(hd:Facts Z w vd ds)(ha:zO Z w va a)(hb:zO Z w vb b)(hc:zL Z w vc c)(hz:∀x,Z x->x<w.heap.size)(htab:zBJ w.heap.size w):
  Calls Tryz.prog 3 #[.agg cs.toArray,.agg #[vd],.agg #[va],.agg #[vb],vc] w λe w'=>e= .returned (.bool true)∧Below w.heap.size w w':=by
 obtain⟨A,cap,rfl⟩:=FmR.form hf;obtain⟨D,dcap,hv1,-,-,-⟩:=hd.open_;subst hv1;obtain⟨AA,acap,hv2,-,-,-⟩:=ha.open_;subst hv2;obtain⟨AB,bcap,hv3,-,-,-⟩:=hb.open_;subst hv3;obtain⟨C,ccap,hv4,-⟩:=hc.form;subst hv4;have HM:=hid (Mw.start hf hd ha hb hc hz htab);clear hf hd ha hb hc hz htab;go_enter Tryz.func3,Tryz.ntmps3
 go_upto_region 1 with fail
 generalize ((((w.alloc (.cells #[.int .i64 f.op,.string f.name,.int .i64 f.cmp,.int .i64 f.num,.slice A f.kids.length cap] 24)).alloc (.cells #[(.slice D ds.length dcap)] 27)).alloc (.cells #[(.slice AA a.length acap)] 30)).alloc (.cells #[(.slice AB b.length bcap)] 30))=w0 at*;go_wp2_with fail
 refine(zTP _ HM.out.tab).mono ?_;rintro e w1 ⟨rfl,hb⟩;replace HM:=hid (HM.out.on hb);clear hb;have f0:=HM.out.fb.at0;have f1:=HM.out.fb.at1;have f2:=HM.out.fb.at2;have f3:=HM.out.fb.at3;have f4:=HM.out.fb.at4;have fl:=HM.out.fb.lt;have d0:=HM.out.db.at0;have dl:=HM.out.db.lt;have HS:=hid (zRw Z Z f _ _ ds w1 HM.out.fm HM.out.fs);go_wp2_with fail
 refine HS.out.mono ?_;rintro e w2 ⟨rfl,hb⟩;replace HM:=hid (HM.out.on hb);clear hb HS f0 f1 f2 f3 f4 fl d0 dl ;cases hs:zCJ f ds
 ·clear hs;go_wp2;go_ret;exact⟨rfl,HM.out.below⟩
 have a0:=HM.out.ab.at0;have al:=HM.out.ab.lt;have HFA:=hid (zKc Z _ a 40 w2 HM.out.na);go_wp2_with fail
 refine HFA.out.mono ?_;rintro e w3 ⟨rfl,hb⟩;replace HM:=hid (HM.out.on hb);clear hb HFA a0 al ;cases hfa:zKD a 40
 ·clear hs hfa;go_wp2;go_ret;exact⟨rfl,HM.out.below⟩
 have b0:=HM.out.bb.at0;have bl:=HM.out.bb.lt;have HFB:=hid (zKc Z _ b 40 w3 HM.out.nb);go_wp2_with fail
 refine HFB.out.mono ?_;rintro e w4 ⟨rfl,hb⟩;replace HM:=hid (HM.out.on hb);clear hb HFB b0 bl ;cases hfb:zKD b 40
 ·clear hs hfa hfb;go_wp2;go_ret;exact⟨rfl,HM.out.below⟩
 have HSM:=hid (And.intro hs (And.intro (zLD hfa) (zLD hfb)));have HBR:=hid (zSG hs)
 have HAR:=hid (zUX (ds:=ds) (a:=a) (b:=b) (by
  have h1:=(zLD hfa).1;have h2:=(zLD hfb).1;have:=Nat.mul_le_mul h1 h2
  omega))
 have HFS:=hid (show zJ f≤250 from zQx hs);clear hs hfa hfb;go_upto_region 4 with fail
 generalize hgn:zBu ds f=gn at*;obtain⟨g,n⟩:=gn;generalize hum:zFG ds a b=um at*;obtain⟨u,m⟩:=um;have f0:=HM.out.fb.at0;have f1:=HM.out.fb.at1;have f2:=HM.out.fb.at2;have f3:=HM.out.fb.at3;have f4:=HM.out.fb.at4;have fl:=HM.out.fb.lt;have d0:=HM.out.db.at0;have dl:=HM.out.db.lt;have HB:=hid (zMf Z Z _ f _ ds w4 HM.out.fm HM.out.zone HM.out.fs HM.out.zone (by have:=HFS.out;omega) HM.out.tab);rw[hgn]at HB;go_wp2_with fail
 refine HB.out.mono ?_;rintro e x4 ⟨v,rfl,hn,hb⟩;obtain⟨Ax,xcap,hv,-,-,-⟩:=hn.open_;simp only at hv;subst hv;replace HM:=hid (HM.out.on hb);have hbx:=zHe.new hn;clear hb hn HB f0 f1 f2 f3 f4 fl d0 dl ;go_upto_region 5 with fail
 replace HM:=hid (HM.out.on (zE x4 (.cells #[.slice Ax g.length xcap] 30)));have Hx:=hid hbx;clear hbx;generalize x4.alloc (.cells #[.slice Ax g.length xcap] 30)=w5 at*;generalize x4.heap.size=Bx at*;clear x4;have f0:=HM.out.fb.at0;have f1:=HM.out.fb.at1;have f2:=HM.out.fb.at2;have f3:=HM.out.fb.at3;have f4:=HM.out.fb.at4;have fl:=HM.out.fb.lt;have d0:=HM.out.db.at0;have dl:=HM.out.db.lt;have HB:=hid (zNW Z f _ _ ds w5 HM.out.fm HM.out.fs HM.out.zone HSM.out.1);rw[HBR.out]at HB;go_wp2_with fail
 refine HB.out.mono ?_;rintro e x5 ⟨v,rfl,hn,hb⟩;obtain⟨Ay,ycap,hv,-,-,-⟩:=hn.open_;simp only at hv;subst hv;replace HM:=hid (HM.out.on hb);replace Hx:=hid (Hx.out.on hb);have hbx:=zHe.new hn;clear hb hn HB f0 f1 f2 f3 f4 fl d0 dl ;go_upto_region 6 with fail
 replace HM:=hid (HM.out.on (zE x5 (.cells #[.slice Ay g.length ycap] 30)));replace Hx:=hid (Hx.out.on (zE x5 (.cells #[.slice Ay g.length ycap] 30)));have Hy:=hid hbx;clear hbx;generalize x5.alloc (.cells #[.slice Ay g.length ycap] 30)=w6 at*;generalize x5.heap.size=By at*;clear x5;have a0:=HM.out.ab.at0;have al:=HM.out.ab.lt;have b0:=HM.out.bb.at0;have bl:=HM.out.bb.lt;have d0:=HM.out.db.at0;have dl:=HM.out.db.lt;have HB:=hid (zU2 Z _ _ _ a b ds w6 HM.out.na HM.out.nb HM.out.fs HM.out.zone HM.out.tab);rw[hum]at HB;go_wp2_with fail
 refine HB.out.mono ?_;rintro e x6 ⟨v,rfl,hn,hb⟩;obtain⟨Au,ucap,hv,-,-,-⟩:=hn.open_;simp only at hv;subst hv;replace HM:=hid (HM.out.on hb);replace Hx:=hid (Hx.out.on hb);replace Hy:=hid (Hy.out.on hb);have hbx:=zHe.new hn;clear hb hn HB a0 al b0 bl d0 dl ;go_upto_region 7 with fail
 replace HM:=hid (HM.out.on (zE x6 (.cells #[.slice Au u.length ucap] 30)));replace Hx:=hid (Hx.out.on (zE x6 (.cells #[.slice Au u.length ucap] 30)));replace Hy:=hid (Hy.out.on (zE x6 (.cells #[.slice Au u.length ucap] 30)));have Hu:=hid hbx;clear hbx;generalize x6.alloc (.cells #[.slice Au u.length ucap] 30)=w7 at*;generalize x6.heap.size=Bu at*;clear x6;have a0:=HM.out.ab.at0;have al:=HM.out.ab.lt;have b0:=HM.out.bb.at0;have bl:=HM.out.bb.lt;have d0:=HM.out.db.at0;have dl:=HM.out.db.lt;have HB:=hid (zP2 Z _ _ _ a b ds w7 HM.out.na HM.out.nb HM.out.fs HM.out.zone (by have h1:=HSM.out.2.1.1;have h2:=HSM.out.2.2.1;have:=Nat.mul_le_mul h1 h2;omega) (by have:=HSM.out.2.1.1;omega) (by have:=HSM.out.2.2.1;omega) HSM.out.2.1.2 HSM.out.2.2.2);rw[HAR.out]at HB;go_wp2_with fail
 refine HB.out.mono ?_;rintro e x7 ⟨v,rfl,hn,hb⟩;obtain⟨Av,vcap,hv,-,-,-⟩:=hn.open_;simp only at hv;subst hv;replace HM:=hid (HM.out.on hb);replace Hx:=hid (Hx.out.on hb);replace Hy:=hid (Hy.out.on hb);replace Hu:=hid (Hu.out.on hb);have hbx:=zHe.new hn;clear hb hn HB a0 al b0 bl d0 dl ;go_upto_region 8 with fail
 replace HM:=hid (HM.out.on (zE x7 (.cells #[.slice Av u.length vcap] 30)));replace Hx:=hid (Hx.out.on (zE x7 (.cells #[.slice Av u.length vcap] 30)));replace Hy:=hid (Hy.out.on (zE x7 (.cells #[.slice Av u.length vcap] 30)));replace Hu:=hid (Hu.out.on (zE x7 (.cells #[.slice Av u.length vcap] 30)));have Hv:=hid hbx;clear hbx;generalize x7.alloc (.cells #[.slice Av u.length vcap] 30)=w8 at*;generalize x7.heap.size=Bv at*;clear x7;have a0:=HM.out.ab.at0;have al:=HM.out.ab.lt;have d0:=HM.out.db.at0;have dl:=HM.out.db.lt;have HB:=hid (zKq Z _ _ a ds w8 HM.out.na HM.out.fs HM.out.tab);go_wp2_with fail
 refine HB.out.mono ?_;rintro e w9 ⟨lp,rfl,hi,hb⟩;replace HM:=hid (HM.out.on hb);replace Hx:=hid (Hx.out.on hb);replace Hy:=hid (Hy.out.on hb);replace Hu:=hid (Hu.out.on hb);replace Hv:=hid (Hv.out.on hb);have Hlp:=hid (hi.mono (Z':=λ_=>True) λ_ _=>trivial);clear hb hi HB a0 al d0 dl ;go_upto_region 9 with fail
 have a0:=HM.out.ab.at0;have al:=HM.out.ab.lt;have d0:=HM.out.db.at0;have dl:=HM.out.db.lt;have HB:=hid (zOP Z _ _ a ds w9 HM.out.na HM.out.fs HM.out.zone);go_wp2_with fail
 refine HB.out.mono ?_;rintro e w10 ⟨lq,rfl,hi,hb⟩;replace HM:=hid (HM.out.on hb);replace Hx:=hid (Hx.out.on hb);replace Hy:=hid (Hy.out.on hb);replace Hu:=hid (Hu.out.on hb);replace Hv:=hid (Hv.out.on hb);have Hlq:=hid (hi.mono (Z':=λ_=>True) λ_ _=>trivial);replace Hlp:=hid (Hlp.out.keep (.of_below hb));clear hb hi HB a0 al d0 dl ;go_upto_region 10 with fail
 generalize zDR ds a=lr at*;have en:(n==n)=true:=by simp
 have em:(m==m)=true:=by simp
 have el:(lr.isSome==lr.isSome)=true:=by simp
 have x0:=Hx.out.1.at0;have xl:=Hx.out.1.lt;have y0:=Hy.out.1.at0;have yl:=Hy.out.1.lt;have HB:=hid (zEJ _ _ _ _ g g w10 Hx.out.2 Hy.out.2);rw[decide_eq_true rfl]at HB;go_wp2_with fail
 refine HB.out.mono ?_;rintro e w11 ⟨rfl,hb⟩;replace HM:=hid (HM.out.on hb);replace Hx:=hid (Hx.out.on hb);replace Hy:=hid (Hy.out.on hb);replace Hu:=hid (Hu.out.on hb);replace Hv:=hid (Hv.out.on hb);replace Hlp:=hid (Hlp.out.keep (.of_below hb));replace Hlq:=hid (Hlq.out.keep (.of_below hb));clear hb HB x0 xl y0 yl;have u0:=Hu.out.1.at0;have ul:=Hu.out.1.lt;have v0:=Hv.out.1.at0;have vl:=Hv.out.1.lt;have HB:=hid (zEJ _ _ _ _ u u w11 Hu.out.2 Hv.out.2);rw[decide_eq_true rfl]at HB;go_wp2_with fail
 refine HB.out.mono ?_;rintro e w12 ⟨rfl,hb⟩;replace HM:=hid (HM.out.on hb);replace Hx:=hid (Hx.out.on hb);replace Hy:=hid (Hy.out.on hb);replace Hu:=hid (Hu.out.on hb);replace Hv:=hid (Hv.out.on hb);replace Hlp:=hid (Hlp.out.keep (.of_below hb));replace Hlq:=hid (Hlq.out.keep (.of_below hb));clear hb HB u0 ul v0 vl;have HB:=hid (zJ4 _ _ lp lq (lr.getD []) (lr.getD []) w12 Hlp.out Hlq.out);rw[decide_eq_true rfl]at HB;go_wp2_with fail
 refine HB.out.mono ?_;rintro e w13 ⟨rfl,hb⟩;replace HM:=hid (HM.out.on hb);replace Hx:=hid (Hx.out.on hb);replace Hy:=hid (Hy.out.on hb);replace Hu:=hid (Hu.out.on hb);replace Hv:=hid (Hv.out.on hb);clear hb HB Hlp Hlq;go_upto_region 11 with fail
 have HC:=hid (λ(W:World)(hW:Below w13.heap.size w13 W)=>(show W.cell? ⟨w.heap.size+1+1,0,none⟩=some (.slice AA a.length acap)∧W.cell? ⟨w.heap.size+1+1+1,0,none⟩=some (.slice AB b.length bcap)∧W.cell? ⟨w.heap.size+1,0,none⟩=some (.slice D ds.length dcap) from by
  have h:=HM.out.on hW
  exact⟨h.ab.cell 0,h.bb.cell 0,h.db.cell 0⟩))
 have HVA:=hid (λW(hW:Below w13.heap.size w13 W)=>zBy Z _ _ a ds W (HM.out.on hW).na (HM.out.on hW).fs (HM.out.on hW).tab);have HVR:=hid (λW(hW:Below w13.heap.size w13 W)=>zDh Z _ _ a ds W (HM.out.on hW).na (HM.out.on hW).fs (HM.out.on hW).zone);have HHA:=hid (λW(hW:Below w13.heap.size w13 W)=>zFo Z _ _ a c W (HM.out.on hW).na (HM.out.on hW).ci);have HHR:=hid (λW(hW:Below w13.heap.size w13 W)=>zI2 Z _ _ a c W (HM.out.on hW).na (HM.out.on hW).ci);have HSA:=hid (λW(hW:Below w13.heap.size w13 W)=>zMJ Z Z _ _ a b W (HM.out.on hW).na (HM.out.on hW).nb);have HSR:=hid (λW(hW:Below w13.heap.size w13 W)=>zEJ Z Z _ _ a b W (HM.out.on hW).na (HM.out.on hW).nb);generalize zAB ds a=b1 at*;generalize zCT a c a.length 0=b2 at*;generalize decide (a=b)=b3 at*;refine zAO 25 (λW=>Below w13.heap.size w13 W) (by kernel_rfl) ?_;have hS:(λW=>Below w13.heap.size w13 W) w13.drew:=(Below.refl _ _).drew
 (refine tkS 0 ?_ hS ?_ ?_;rotate_left;intro w hkw;obtain⟨a0,b0,d0⟩:=HC.out _ hkw;clear hkw;go_simp;(try with_reducible rfl);simp only[nr])
 (refine tkS 1 ?_ hS ?_ ?_;rotate_left;intro w hkw;obtain⟨a0,b0,d0⟩:=HC.out _ hkw;clear hkw;go_simp;(try with_reducible rfl);simp only[nr])
 (refine tkS 3 ?_ hS ?_ ?_;rotate_left;intro w hkw;obtain⟨a0,b0,d0⟩:=HC.out _ hkw;clear hkw;go_simp;(try with_reducible rfl);simp only[nr])
 (refine tkS 4 ?_ hS ?_ ?_;rotate_left;intro w hkw;obtain⟨a0,b0,d0⟩:=HC.out _ hkw;clear hkw;go_simp;(try with_reducible rfl);simp only[nr])
 refine zBC (i:=2) (by kernel_rfl) rfl (by kernel_rfl) (λK hK=> ?_);go_wp2_with fail
 refine(HVA.out _ hS).mono ?_;rintro e w14 ⟨rfl,hb⟩;have hb6:Below w13.heap.size w13 w14:=hS.trans (hb.mono hS.size);refine hK _ _ (Or.inr hb6) ?_;clear hK K hb hS
 (try simp only[nr])
 have hS:(λW=>Below w13.heap.size w13 W) w14:=hb6;clear hb6;refine zBC (i:=5) (by kernel_rfl) rfl (by kernel_rfl) (λK hK=> ?_);go_wp2_with fail
 refine(HVR.out _ hS).mono ?_;rintro e w15 ⟨rfl,hb⟩;have hb6:Below w13.heap.size w13 w15:=hS.trans (hb.mono hS.size);refine hK _ _ (Or.inr hb6) ?_;clear hK K hb hS
 (try simp only[nr])
 have hS:(λW=>Below w13.heap.size w13 W) w15:=hb6;clear hb6
 (refine tkZ 6 ?_ hS ?_ ?_;rotate_left;intro w;go_simp;(try with_reducible rfl);simp only[nr])
 (refine tkZ 7 ?_ hS ?_ ?_;rotate_left;intro w;go_simp;(try with_reducible rfl);simp only[nr])
 change wpAnyS _ _ _ _ _ _ _ _ (Act.mk _ _) _
 (try simp only[nr])
 (refine tkS 8 ?_ hS ?_ ?_;rotate_left;intro w hkw;obtain⟨a0,b0,d0⟩:=HC.out _ hkw;clear hkw;go_simp;(try with_reducible rfl);simp only[nr])
 (refine tkZ 9 ?_ hS ?_ ?_;rotate_left;intro w;go_simp;(try with_reducible rfl);simp only[nr])
 (refine tkS 11 ?_ hS ?_ ?_;rotate_left;intro w hkw;obtain⟨a0,b0,d0⟩:=HC.out _ hkw;clear hkw;go_simp;(try with_reducible rfl);simp only[nr])
 (refine tkZ 12 ?_ hS ?_ ?_;rotate_left;intro w;go_simp;(try with_reducible rfl);simp only[nr])
 refine zBC (i:=10) (by kernel_rfl) rfl (by kernel_rfl) (λK hK=> ?_);go_wp2_with fail
 refine(HHA.out _ hS).mono ?_;rintro e w16 ⟨rfl,hb⟩;have hb6:Below w13.heap.size w13 w16:=hS.trans (hb.mono hS.size);refine hK _ _ (Or.inr hb6) ?_;clear hK K hb hS
 (try simp only[nr])
 have hS:(λW=>Below w13.heap.size w13 W) w16:=hb6;clear hb6;refine zBC (i:=13) (by kernel_rfl) rfl (by kernel_rfl) (λK hK=> ?_);go_wp2_with fail
 refine(HHR.out _ hS).mono ?_;rintro e w17 ⟨rfl,hb⟩;have hb6:Below w13.heap.size w13 w17:=hS.trans (hb.mono hS.size);refine hK _ _ (Or.inr hb6) ?_;clear hK K hb hS
 (try simp only[nr])
 have hS:(λW=>Below w13.heap.size w13 W) w17:=hb6;clear hb6
 (refine tkZ 14 ?_ hS ?_ ?_;rotate_left;intro w;go_simp;(try with_reducible rfl);simp only[nr])
 (refine tkZ 15 ?_ hS ?_ ?_;rotate_left;intro w;go_simp;(try with_reducible rfl);simp only[nr])
 (refine tkZ 16 ?_ hS ?_ ?_;rotate_left;intro w;go_simp;(try with_reducible rfl);simp only[nr])
 change wpAnyS _ _ _ _ _ _ _ _ (Act.mk _ _) _
 (try simp only[nr])
 (refine tkS 17 ?_ hS ?_ ?_;rotate_left;intro w hkw;obtain⟨a0,b0,d0⟩:=HC.out _ hkw;clear hkw;go_simp;(try with_reducible rfl);simp only[nr])
 (refine tkS 18 ?_ hS ?_ ?_;rotate_left;intro w hkw;obtain⟨a0,b0,d0⟩:=HC.out _ hkw;clear hkw;go_simp;(try with_reducible rfl);simp only[nr])
 (refine tkS 20 ?_ hS ?_ ?_;rotate_left;intro w hkw;obtain⟨a0,b0,d0⟩:=HC.out _ hkw;clear hkw;go_simp;(try with_reducible rfl);simp only[nr])
 (refine tkS 21 ?_ hS ?_ ?_;rotate_left;intro w hkw;obtain⟨a0,b0,d0⟩:=HC.out _ hkw;clear hkw;go_simp;(try with_reducible rfl);simp only[nr])
 refine zBC (i:=19) (by kernel_rfl) rfl (by kernel_rfl) (λK hK=> ?_);go_wp2_with fail
 refine(HSA.out _ hS).mono ?_;rintro e w18 ⟨rfl,hb⟩;have hb6:Below w13.heap.size w13 w18:=hS.trans (hb.mono hS.size);refine hK _ _ (Or.inr hb6) ?_;clear hK K hb hS
 (try simp only[nr])
 have hS:(λW=>Below w13.heap.size w13 W) w18:=hb6;clear hb6;refine zBC (i:=22) (by kernel_rfl) rfl (by kernel_rfl) (λK hK=> ?_);go_wp2_with fail
 refine(HSR.out _ hS).mono ?_;rintro e w19 ⟨rfl,hb⟩;have hb6:Below w13.heap.size w13 w19:=hS.trans (hb.mono hS.size);refine hK _ _ (Or.inr hb6) ?_;clear hK K hb hS
 (try simp only[nr])
 have hS:(λW=>Below w13.heap.size w13 W) w19:=hb6;clear hb6
 (refine tkZ 23 ?_ hS ?_ ?_;rotate_left;intro w;go_simp;(try with_reducible rfl);simp only[nr])
 (refine tkZ 24 ?_ hS ?_ ?_;rotate_left;intro w;go_simp;(try with_reducible rfl);simp only[nr])
 refine wS1 25 (λK hK=> ?_);go_wp2_with fail
 refine hK _ _ (Or.inl rfl) ?_;clear hK K
 (try simp only[nr])
 refine wSd ?_ _;replace HM:=hid (HM.out.on hS);replace Hx:=hid (Hx.out.on hS);replace Hy:=hid (Hy.out.on hS);replace Hu:=hid (Hu.out.on hS);replace Hv:=hid (Hv.out.on hS);clear hS HC HVA HVR HHA HHR HSA HSR;go_upto_region 12 with fail
 have HC:=hid (λ(W:World)(hW:Below w19.heap.size w19 W)=>(show W.cell? ⟨Bx,0,none⟩=some (.slice Ax g.length xcap)∧W.cell? ⟨By,0,none⟩=some (.slice Ay g.length ycap)∧W.cell? ⟨w.heap.size+1+1,0,none⟩=some (.slice AA a.length acap)∧W.cell? ⟨w.heap.size+1,0,none⟩=some (.slice D ds.length dcap) from
  ⟨(Hx.out.on hW).1.cell 0,(Hy.out.on hW).1.cell 0,(HM.out.on hW).ab.cell 0,(HM.out.on hW).db.cell 0⟩))
 have HVX:=hid (λW(hW:Below w19.heap.size w19 W)=>zBy (λ_=>True) _ _ g ds W ((Hx.out.on hW).2.mono λ_ _=>trivial) ((HM.out.on hW).fs.mono λ_ _=>trivial) (HM.out.on hW).tab);have HVY:=hid (λW(hW:Below w19.heap.size w19 W)=>zDh (λx=>x<W.heap.size) _ _ g ds W (Hx.out.on hW).2 ((HM.out.on hW).fs.mono (HM.out.on hW).zone) (λ_ h=>h));have HHX:=hid (λW(hW:Below w19.heap.size w19 W)=>zFo (λ_=>True) _ _ g c W ((Hx.out.on hW).2.mono λ_ _=>trivial) ((HM.out.on hW).ci.mono λ_ _=>trivial));have HHY:=hid (λW(hW:Below w19.heap.size w19 W)=>zI2 (λ_=>True) _ _ g c W ((Hy.out.on hW).2.mono λ_ _=>trivial) ((HM.out.on hW).ci.mono λ_ _=>trivial));have HNA:=hid (λW(hW:Below w19.heap.size w19 W)=>zUP Z _ a W (HM.out.on hW).na);have HNR:=hid (λW(hW:Below w19.heap.size w19 W)=>zQt Z _ a W (HM.out.on hW).na (by have:=HSM.out.2.1.1;omega) (HM.out.on hW).zone);generalize zAB ds g=b1 at*;generalize zCT g c g.length 0=b2 at*;refine zAO 32 (λW=>Below w19.heap.size w19 W) (by kernel_rfl) ?_;have hS:(λW=>Below w19.heap.size w19 W) w19.drew:=(Below.refl _ _).drew
 (refine tkZ 0 ?_ hS ?_ ?_;rotate_left;intro w;go_simp;(try with_reducible rfl);simp only[nr])
 (refine tkZ 1 ?_ hS ?_ ?_;rotate_left;intro w;go_simp;(try with_reducible rfl);simp only[nr])
 (refine tkZ 2 ?_ hS ?_ ?_;rotate_left;intro w;go_simp;(try with_reducible rfl);simp only[nr])
 (refine tkZ 3 ?_ hS ?_ ?_;rotate_left;intro w;go_simp;(try with_reducible rfl);simp only[nr])
 (refine tkZ 4 ?_ hS ?_ ?_;rotate_left;intro w;go_simp;(try with_reducible rfl);simp only[nr])
 (refine tkZ 5 ?_ hS ?_ ?_;rotate_left;intro w;go_simp;(try with_reducible rfl);simp only[nr])
 (refine tkZ 6 ?_ hS ?_ ?_;rotate_left;intro w;go_simp;(try with_reducible rfl);simp only[nr])
 (refine tkZ 7 ?_ hS ?_ ?_;rotate_left;intro w;go_simp;(try with_reducible rfl);simp only[nr])
 change wpAnyS _ _ _ _ _ _ _ _ (Act.mk _ _) _
 (try simp only[nr])
 (refine tkS 8 ?_ hS ?_ ?_;rotate_left;intro w hkw;obtain⟨x0,y0,a0,d0⟩:=HC.out _ hkw;clear hkw;go_simp;(try with_reducible rfl);simp only[nr])
 (refine tkS 9 ?_ hS ?_ ?_;rotate_left;intro w hkw;obtain⟨x0,y0,a0,d0⟩:=HC.out _ hkw;clear hkw;go_simp;(try with_reducible rfl);simp only[nr])
 (refine tkS 11 ?_ hS ?_ ?_;rotate_left;intro w hkw;obtain⟨x0,y0,a0,d0⟩:=HC.out _ hkw;clear hkw;go_simp;(try with_reducible rfl);simp only[nr])
 (refine tkS 12 ?_ hS ?_ ?_;rotate_left;intro w hkw;obtain⟨x0,y0,a0,d0⟩:=HC.out _ hkw;clear hkw;go_simp;(try with_reducible rfl);simp only[nr])
 refine zBC (i:=10) (by kernel_rfl) rfl (by kernel_rfl) (λK hK=> ?_);go_wp2_with fail
 refine(HVX.out _ hS).mono ?_;rintro e w20 ⟨rfl,hb⟩;have hb6:Below w19.heap.size w19 w20:=hS.trans (hb.mono hS.size);refine hK _ _ (Or.inr hb6) ?_;clear hK K hb hS
 (try simp only[nr])
 have hS:(λW=>Below w19.heap.size w19 W) w20:=hb6;clear hb6;refine zBC (i:=13) (by kernel_rfl) rfl (by kernel_rfl) (λK hK=> ?_);go_wp2_with fail
 refine(HVY.out _ hS).mono ?_;rintro e w21 ⟨rfl,hb⟩;have hb6:Below w19.heap.size w19 w21:=hS.trans (hb.mono hS.size);refine hK _ _ (Or.inr hb6) ?_;clear hK K hb hS
 (try simp only[nr])
 have hS:(λW=>Below w19.heap.size w19 W) w21:=hb6;clear hb6
 (refine tkZ 14 ?_ hS ?_ ?_;rotate_left;intro w;go_simp;(try with_reducible rfl);simp only[nr])
 (refine tkZ 15 ?_ hS ?_ ?_;rotate_left;intro w;go_simp;(try with_reducible rfl);simp only[nr])
 (refine tkZ 16 ?_ hS ?_ ?_;rotate_left;intro w;go_simp;(try with_reducible rfl);simp only[nr])
 change wpAnyS _ _ _ _ _ _ _ _ (Act.mk _ _) _
 (try simp only[nr])
 (refine tkS 17 ?_ hS ?_ ?_;rotate_left;intro w hkw;obtain⟨x0,y0,a0,d0⟩:=HC.out _ hkw;clear hkw;go_simp;(try with_reducible rfl);simp only[nr])
 (refine tkZ 18 ?_ hS ?_ ?_;rotate_left;intro w;go_simp;(try with_reducible rfl);simp only[nr])
 (refine tkS 20 ?_ hS ?_ ?_;rotate_left;intro w hkw;obtain⟨x0,y0,a0,d0⟩:=HC.out _ hkw;clear hkw;go_simp;(try with_reducible rfl);simp only[nr])
 (refine tkZ 21 ?_ hS ?_ ?_;rotate_left;intro w;go_simp;(try with_reducible rfl);simp only[nr])
 refine zBC (i:=19) (by kernel_rfl) rfl (by kernel_rfl) (λK hK=> ?_);go_wp2_with fail
 refine(HHX.out _ hS).mono ?_;rintro e w22 ⟨rfl,hb⟩;have hb6:Below w19.heap.size w19 w22:=hS.trans (hb.mono hS.size);refine hK _ _ (Or.inr hb6) ?_;clear hK K hb hS
 (try simp only[nr])
 have hS:(λW=>Below w19.heap.size w19 W) w22:=hb6;clear hb6;refine zBC (i:=22) (by kernel_rfl) rfl (by kernel_rfl) (λK hK=> ?_);go_wp2_with fail
 refine(HHY.out _ hS).mono ?_;rintro e w23 ⟨rfl,hb⟩;have hb6:Below w19.heap.size w19 w23:=hS.trans (hb.mono hS.size);refine hK _ _ (Or.inr hb6) ?_;clear hK K hb hS
 (try simp only[nr])
 have hS:(λW=>Below w19.heap.size w19 W) w23:=hb6;clear hb6
 (refine tkZ 23 ?_ hS ?_ ?_;rotate_left;intro w;go_simp;(try with_reducible rfl);simp only[nr])
 (refine tkZ 24 ?_ hS ?_ ?_;rotate_left;intro w;go_simp;(try with_reducible rfl);simp only[nr])
 (refine tkZ 25 ?_ hS ?_ ?_;rotate_left;intro w;go_simp;(try with_reducible rfl);simp only[nr])
 change wpAnyS _ _ _ _ _ _ _ _ (Act.mk _ _) _
 (try simp only[nr])
 (refine tkS 26 ?_ hS ?_ ?_;rotate_left;intro w hkw;obtain⟨x0,y0,a0,d0⟩:=HC.out _ hkw;clear hkw;go_simp;(try with_reducible rfl);simp only[nr])
 (refine tkS 28 ?_ hS ?_ ?_;rotate_left;intro w hkw;obtain⟨x0,y0,a0,d0⟩:=HC.out _ hkw;clear hkw;go_simp;(try with_reducible rfl);simp only[nr])
 refine zBC (i:=27) (by kernel_rfl) rfl (by kernel_rfl) (λK hK=> ?_);go_wp2_with fail
 refine(HNA.out _ hS).mono ?_;rintro e w24 ⟨vn,rfl,hn1,hb⟩;have hb6:Below w19.heap.size w19 w24:=hS.trans (hb.mono hS.size);refine hK _ _ (Or.inr hb6) ?_;clear hK K hS
 (try simp only[nr])
 have hS:(λW=>Below w19.heap.size w19 W) w24:=hb6;have hn1':=hn1.mono (Z':=λ_=>True) λ_ _=>trivial
 clear hb hn1 hb6;refine zBC (i:=29) (by kernel_rfl) rfl (by kernel_rfl) (λK hK=> ?_);go_wp2_with fail
 refine(HNR.out _ hS).mono ?_;rintro e w25 ⟨vr,rfl,hn2,hb⟩;have hb6:Below w19.heap.size w19 w25:=hS.trans (hb.mono hS.size);refine hK _ _ (Or.inr hb6) ?_;clear hK K hS
 (try simp only[nr])
 have hS:(λW=>Below w19.heap.size w19 W) w25:=hb6;have hn1'':=hn1'.keep (.of_below hb);clear hb hn1' hb6;refine zBC (i:=30) (by kernel_rfl) rfl (by kernel_rfl) (λK hK=> ?_);go_wp2_with fail
 refine(zEJ _ _ vn vr (zF4 a) (zF4 a) w25 hn1'' hn2).mono ?_;rw[decide_eq_true rfl];rintro e w26 ⟨rfl,hb⟩;have hb6:Below w19.heap.size w19 w26:=hS.trans (hb.mono hS.size);refine hK _ _ (Or.inr hb6) ?_;clear hK K hb hS
 (try simp only[nr])
 have hS:(λW=>Below w19.heap.size w19 W) w26:=hb6;clear hb6
 (refine tkZ 31 ?_ hS ?_ ?_;rotate_left;intro w;go_simp;(try with_reducible rfl);simp only[nr])
 refine wS1 32 (λK hK=> ?_);go_wp2_with fail
 refine hK _ _ (Or.inl rfl) ?_;clear hK K
 (try simp only[nr])
 refine wSd ?_ _;replace HM:=hid (HM.out.on hS);go_wp2;go_ret;exact⟨rfl,HM.out.below⟩
end Go.Proofs.YtonmdbdopchkaaaGreatDoor
