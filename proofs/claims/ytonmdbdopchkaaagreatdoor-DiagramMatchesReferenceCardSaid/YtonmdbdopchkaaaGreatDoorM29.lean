/- Texts V2. -/
import Derived.Test.YtonmdbdopchkaaaGreatDoorM27
import Derived.Test.YtonmdbdopchkaaaGreatDoorM26
set_option linter.all false
namespace Go.Proofs.YtonmdbdopchkaaaGreatDoor
open Go.RowKit
set_option maxHeartbeats 8000000
set_option maxRecDepth 100000
def InW(w0 wr:World)(B:Nat)(fact:Int)(c q:List Int):Prop:=
 ∃vc vq,Blk wr B 51 #[.bool false,.int .i64 fact,vc,vq]∧wr.ownsRow w0.heap.size 3 1 vc c.length (c.map (.int .i64))∧wr.ownsRow w0.heap.size 3 1 vq q.length (q.map (.int .i64))∧
  (∀g,vc.ownBlock=some g->g≠B∧vq.ownBlock≠some g)∧(∀g,vq.ownBlock=some g->g≠B)∧Below w0.heap.size w0 wr
section
variable {w0 wr W1:World} {B:Nat} {fact:Int} {c q:List Int} {s:Int} {o:Obj} {vc vq v5:Value}
theorem zUc(hB:w0.heap.size≤B)(hb:Blk wr B 51 #[.bool false,.int .i64 fact,vc,vq])(hc:wr.ownsRow w0.heap.size 3 1 vc c.length (c.map (.int .i64)))(hq:wr.ownsRow w0.heap.size 3 1 vq q.length (q.map (.int .i64)))
  (hd:∀g,vc.ownBlock=some g->g≠B∧vq.ownBlock≠some g)(hqB:∀g,vq.ownBlock=some g->g≠B)(hbel:Below w0.heap.size w0 wr)
  (hg5:(wr.alloc o).drew.grownBy W1 vc.ownBlock)(hown5:W1.ownsRow w0.heap.size 3 1 v5 (c.length+1) (c.map (.int .i64)++[.int .i64 s]))(hat5:v5.ownBlock=vc.ownBlock∨v5.ownBlock=some (wr.alloc o).drew.heap.size):
  InW w0 (W1.setCell ⟨B,2,none⟩ v5) B fact (c++[s]) q:=by
 have hsd:(wr.alloc o).drew.heap.size =wr.heap.size+1:=by show(wr.alloc o).heap.size =_;simp
 have hk:zA (λg=>vc.ownBlock≠some g) wr W1:=(((zA.refl _ _).alloc o).drew).grown hg5 (λk hk _ hx=>hx hk);have hB5:Blk W1 B 51 #[.bool false,.int .i64 fact,vc,vq]:=((hb.alloc o).drew).grown hg5 (λe=>(hd B e).1 rfl);have hBl:=hb.lt
 have h5:∀g,v5.ownBlock=some g->g≠B∧vq.ownBlock≠some g:=λg hg=>by
  rcases hat5 with e|e
  ·rw[e]at hg;exact hd g hg
  ·rw[hg]at e;injection e with e;exact⟨by omega,λh=>by have:=(hq.lt g h).2;omega⟩
 have hset:zA (λg=>g≠B) W1 (W1.setCell ⟨B,2,none⟩ v5):=(zA.refl _ _).setCell (p:=⟨B,2,none⟩) (λ_ h=>h rfl) v5;refine⟨v5,vq,hB5.set_ 2 v5,?_,zl (zl hq hk λk hk' e=>(hd k e).2 hk') hset λk hk'=>hqB k hk',h5,hqB,?_⟩
 ·have:=zl hown5 hset λk hk'=>(h5 k hk').1
  rw[List.length_append,List.length_singleton,List.map_append];exact this
 ·exact(zx ((hbel.alloc hbel.size o).drew) ((hc.alloc o).drew) hg5 (by have:=hbel.size;omega) (Nat.le_refl _)).setCell hB _
theorem zUd(hB:w0.heap.size≤B)(hb:Blk wr B 51 #[.bool false,.int .i64 fact,vc,vq])(hc:wr.ownsRow w0.heap.size 3 1 vc c.length (c.map (.int .i64)))(hq:wr.ownsRow w0.heap.size 3 1 vq q.length (q.map (.int .i64)))
  (hd:∀g,vc.ownBlock=some g->g≠B∧vq.ownBlock≠some g)(hqB:∀g,vq.ownBlock=some g->g≠B)(hbel:Below w0.heap.size w0 wr)
  (hg5:(wr.alloc o).drew.grownBy W1 vq.ownBlock)(hown5:W1.ownsRow w0.heap.size 3 1 v5 (q.length+1) (q.map (.int .i64)++[.int .i64 s]))(hat5:v5.ownBlock=vq.ownBlock∨v5.ownBlock=some (wr.alloc o).drew.heap.size):
  InW w0 (W1.setCell ⟨B,3,none⟩ v5) B fact c (q++[s]):=by
 have hsd:(wr.alloc o).drew.heap.size =wr.heap.size+1:=by show(wr.alloc o).heap.size =_;simp
 have hk:zA (λg=>vq.ownBlock≠some g) wr W1:=(((zA.refl _ _).alloc o).drew).grown hg5 (λk hk _ hx=>hx hk);have hB5:Blk W1 B 51 #[.bool false,.int .i64 fact,vc,vq]:=((hb.alloc o).drew).grown hg5 (λe=>hqB B e rfl);have hBl:=hb.lt
 have h5:∀g,v5.ownBlock=some g->g≠B∧vc.ownBlock≠some g:=λg hg=>by
  rcases hat5 with e|e
  ·rw[e]at hg;exact⟨hqB g hg,λh=>(hd g h).2 hg⟩
  ·rw[hg]at e;injection e with e;exact⟨by omega,λh=>by have:=(hc.lt g h).2;omega⟩
 have hset:zA (λg=>g≠B) W1 (W1.setCell ⟨B,3,none⟩ v5):=(zA.refl _ _).setCell (p:=⟨B,3,none⟩) (λ_ h=>h rfl) v5;refine⟨vc,v5,hB5.set_ 3 v5,zl (zl hc hk λk hk' e=>(hd k hk').2 e) hset λk hk'=>(hd k hk').1,?_,λg hg=>⟨(hd g hg).1,λh=>(h5 g h).2 hg⟩,λg hg=>(h5 g hg).1,?_⟩
 ·have:=zl hown5 hset λk hk'=>(h5 k hk').1
  rw[List.length_append,List.length_singleton,List.map_append];exact this
 ·exact(zx ((hbel.alloc hbel.size o).drew) ((hq.alloc o).drew) hg5 (by have:=hbel.size;omega) (Nat.le_refl _)).setCell hB _
theorem in_drew(h:InW w0 wr B fact c q)(n:Nat):InW w0 (wr.drewN n) B fact c q:=by
 obtain⟨vc,vq,h1,h2,h3,h4,h5,h6⟩:=h;exact⟨vc,vq,h1.drewN n,h2,h3,h4,h5,below_drewN' h6 n⟩
theorem zUM{w:World}{base:Nat}(x:Int)(h:base≤w.heap.size):(w.alloc (.cells #[.int .i64 x] 3)).ownsRow base 3 1 (.slice (some ⟨w.heap.size,0,none⟩) 1 1) 1 ([x].map (.int .i64)):=by
 have hb:=Blk.new w 3 #[.int .i64 x];exact⟨rfl,Or.inr ⟨w.heap.size,1,#[.int .i64 x],rfl,h,hb,Nat.le_refl _,by simp[maxLen],rfl,rfl⟩⟩
end
theorem zRp{base:Nat}{wr:World}{vq:Value}{k0:Int}{q:List Int}(h:wr.ownsRow base 3 1 vq (q.length+1) ((k0::q).map (.int .i64))):
  ∃qb qoff qcap,vq= .slice (some ⟨qb,qoff,none⟩) (q.length+1) qcap∧q.length+1≤qcap∧wr.cell? ⟨qb,qoff+q.length,none⟩=some (.int .i64 (lastOf (k0::q))):=by
 obtain⟨g,cap,rfl⟩:=zAZ h
 have hc:=h.cells (g:=g) rfl q.length (.int .i64 (lastOf (k0::q))) (by
  unfold lastOf
  rw[List.getElem?_map,List.length_cons,Nat.add_sub_cancel,List.getD_eq_getElem?_getD,List.getElem?_eq_getElem (by simp)];rfl)
 refine⟨g,0,cap,rfl,?_,by rwa[show(⟨g,0,none⟩:Addr).add q.length=⟨g,0+q.length,none⟩ from by unfold Addr.add;split<;>simp_all]at hc⟩;rcases h.2 with⟨hv,_⟩|⟨g',cap',cur,hv,_,_,hle,_⟩
 ·cases hv
 ·injection hv with _ _ hv;omega
def zE4(w:World)(M:Nat)(F Z:Nat->Prop)(r:Int × List zB)(e:Ending)(w':World):Prop:=
 e= .returned (.int .i64 r.1)∧(∃F' Z',RkS w' M r.2 F' Z'∧(∀b,F' b->F b∨w.heap.size≤b)∧∀b,Z' b->Z b∨w.heap.size≤b)∧zA (λb=>¬F b) w w'
theorem zFM{w wr w':World}{M:Nat}{F Z Zn:Nat->Prop}{r:Int × List zB}{e:Ending}(hb:Below w.heap.size w wr)(hz:∀b,Zn b->w.heap.size≤b)(h:zKk wr M F (λb=>Z b∨Zn b) r e w'):zE4 w M F Z r e w':=by
 obtain⟨he,⟨F',h1,h2⟩,h3⟩:=h;exact⟨he,⟨F',_,h1,λx hx=>(h2 x hx).imp id (λh=>Nat.le_trans hb.size h),λx hx=>hx.imp id (hz x)⟩,(zA.of_below hb).trans h3⟩
theorem zKo(M:Nat)(all:List zB)(F Z Za:Nat->Prop)(vs vk:Value)(i:Int)(starts kids:List Int)(w:World)(h:RkS w M all F Z)(hs:zL Za w vs starts)(hk:zL Za w vk kids)(hi:I64 i)(hl:starts.length=kids.length)(hne:kids≠[])(hkl:kids.length≤1000000)(hlen:all.length≤1000000):
  Calls Tryz.prog 92 #[.pointer (some ⟨M,0,none⟩),.int .i64 i,vs,vk] w (zE4 w M F Z (zb all i starts kids)):=by
 obtain⟨SA,scap,rfl,hs1,hs2,hs3,hsr⟩:=hs.1;obtain⟨KA,kcap,rfl,hk1,hk2,hk3,hkr⟩:=hk.1;obtain⟨kb,koff,rfl,-,hkc⟩:=hkr (by simpa using hne)
 obtain⟨sb,soff,rfl,-,hsc⟩:=hsr (by
  intro e;have e:starts=[]:=by simpa using e
  subst e;simp at hl
  exact hne (List.eq_nil_of_length_eq_zero hl.symm))
 have hl0:0<kids.length:=List.length_pos_iff.2 hne;have HKC:=hid (λk(hk:k<kids.length)=>(show w.cell? ⟨kb,koff+k,none⟩=some (.int .i64 (kids.getD k 0)) from hkc k _ (by rw[List.getElem?_map,List.getD_eq_getElem?_getD,List.getElem?_eq_getElem hk];rfl)));have HSC:=hid (λk(hk:k<kids.length)=>(show w.cell? ⟨sb,soff+k,none⟩=some (.int .i64 (starts.getD k 0)) from hsc k _ (by rw[List.getElem?_map,List.getD_eq_getElem?_getD,List.getElem?_eq_getElem (by omega)];rfl)));have HT:=hid (λk(hk:k<kids.length)=>zK0 hl hk (kids.getD 0 0))
 have HK1:=hid (show zM (kids.getD 0 0) (starts.take 1) (kids.take 1)=([],[]) from by
  cases kids with
  |nil=>exact absurd rfl hne
  |cons k ks=>
   cases starts with
   |nil=>simp at hl
   |cons s ss=>simp[zM])
 have zKN:=hid (show zM (kids.getD 0 0) (starts.take kids.length) (kids.take kids.length)=zM (kids.getD 0 0) starts kids from by rw[List.take_length,<-hl,List.take_length]);have HSH:=hid (λk=>zDW (kids.getD 0 0) (starts.take k) (kids.take k));have HML:=hid (λk=>zE8 (kids.getD 0 0) (starts.take k) (kids.take k));have zDO:=hid (show zb all i starts kids=if(zM (kids.getD 0 0) starts kids).2=[]then(kids.getD 0 0,all)else zW all ⟨false,i,(zM (kids.getD 0 0) starts kids).1,kids.getD 0 0::(zM (kids.getD 0 0) starts kids).2⟩ from rfl);have HFS:=hid (λc(hc:c∈(zM (kids.getD 0 0) starts kids).1)=>hs.2 c (zFp _ _ _ c hc))
 have HFK:=hid (λc(hc:c∈kids.getD 0 0::(zM (kids.getD 0 0) starts kids).2)=>hk.2 c (by
  rcases List.mem_cons.1 hc with rfl|hc
  ·exact zAf hl0
  ·exact zFY _ _ _ c hc))
 have HR:=hid h;have HI:=hid hi;have zW3:=hid hl;have h0c:=HKC.out 0 hl0;have hkb:kb<w.heap.size:=lt_of_cell h0c;have hsb:sb<w.heap.size:=lt_of_cell (HSC.out 0 hl0);have hk0:(0:Int)<(kids.length:Int):=by omega
 rw[Nat.add_zero]at h0c;clear h hs hk hsr hkr hkc hsc hi hl;generalize hk0e:kids.getD 0 0=k0 at*;have HK0:=hid hk0e;clear hk0e;go_enter Tryz.func92,Tryz.ntmps92
 go_wp2;go_loopw[10] (λix wr=>∃k:Nat,1≤k∧k≤kids.length∧ix= .int .i64 k∧InW w wr (w.heap.size+1) i (zM k0 (starts.take k) (kids.take k)).1 (k0::(zM k0 (starts.take k) (kids.take k)).2)) (λix _=>kids.length-(intOf ix).toNat)
 case atStart=>
  refine⟨1,Nat.le_refl _,hl0,rfl,?_⟩;rw[HK1.out];exact⟨.slice none 0 0,.slice (some ⟨w.heap.size,0,none⟩) 1 1,Blk.new' (w.alloc (.cells #[.int .i64 k0] 3)) _ _ (by simp),World.ownsRow_nil _ _ _ _,(zUM k0 (Nat.le_refl _)).alloc _,(λg hg=>by cases hg),(λg hg=>by cases hg;show w.heap.size≠w.heap.size+1;omega),zAy w _ _⟩
 case round=>
  obtain⟨k,hk1,hkn,rfl,vc,vq,hbox,hcu,hki,hd,hqB,hbel⟩:=hrel;by_cases hlt:k<kids.length
  ·have hc1:=(hbel.cell (p:=⟨kb,koff+k,none⟩) hkb).trans (HKC.out k hlt);have hc2:=(hbel.cell (p:=⟨sb,soff+k,none⟩) hsb).trans (HSC.out k hlt);obtain⟨qb,qoff,qcap,rfl,hqc,hqcell⟩:=zRp hki;have hqb:=lt_of_cell hqcell;have b2:=hbox.at2;have b3:=hbox.at3;have bl:=hbox.lt;have hkr:=Nat.lt_of_lt_of_le hkb hbel.size;have hsr:=Nat.lt_of_lt_of_le hsb hbel.size;have htk:=HT.out k hlt;have hsh:(zM k0 (starts.take k) (kids.take k)).2.length ≤1000000:=Nat.le_trans (HSH.out k) (by simp;omega);(have hch:(zM k0 (starts.take k) (kids.take k)).1.length ≤1000000:=by rw[HML.out];exact hsh);(have hks:k<starts.length:=by have:=zW3.out;omega);have HX1:=hid (λW(hW:Below w.heap.size w W)=>(hW.cell (p:=⟨kb,koff+k,none⟩) hkb).trans (HKC.out k hlt));generalize hm:zM k0 (starts.take k) (kids.take k)=m at*;generalize hlast:lastOf (k0::m.2)=last at*;generalize kids.getD k 0=x at*;generalize starts.getD k 0=s at*;have HX:=hid (And.intro hbox (And.intro hcu (And.intro hki (And.intro hd (And.intro hqB hbel)))));have HTK:=hid htk;have HMH:=hid hm;clear htk hbox hcu hki hd hqB hbel hlast hm;(have q1:(0:Int)≤(m.2.length:Int):=by omega);(have q2:m.2.length<m.2.length+1:=by omega);by_cases hxl:x=last
   ·(have hx:(x !=last)=false:=by simp[hxl]);have HN:=hid (HTK.out.trans (if_pos hxl));clear hxl HTK;go_wp2;go_quiet(fail);go_wp2;go_roundw
    case rel=>
     refine⟨k+1,by omega,by omega,by go_num,?_⟩;rw[HN.out];exact in_drew ⟨_,_,HX.out⟩ _
    case measure=>simp[intOf];omega
   ·(have hx:(x !=last)=true:=by simp[hxl]);have HN:=hid (HTK.out.trans (if_neg hxl));clear hxl HTK;go_wp2;go_quiet(fail);go_wp2;obtain⟨hbox,hcu,hki,hd,hqB,hbel⟩:=HX.out;replace hbox:=hbox.drewN nq;replace hcu:(wr.drewN nq).ownsRow w.heap.size 3 1 vc m.1.length (m.1.map (.int .i64)):=hcu;replace hki:(wr.drewN nq).ownsRow w.heap.size 3 1 (.slice (some ⟨qb,qoff,none⟩) (m.2.length+1) qcap) (k0::m.2).length ((k0::m.2).map (.int .i64)):=hki;replace hbel:=below_drewN' hbel nq;replace b2:(wr.drewN nq).cell? ⟨w.heap.size+1,2,none⟩=some vc:=b2;replace hc1:(wr.drewN nq).cell? ⟨kb,koff+k,none⟩=some (.int .i64 x):=hc1;replace hc2:(wr.drewN nq).cell? ⟨sb,soff+k,none⟩=some (.int .i64 s):=hc2;replace bl:w.heap.size+1<(wr.drewN nq).heap.size :=bl;replace hkr:kb<(wr.drewN nq).heap.size :=hkr;replace hsr:sb<(wr.drewN nq).heap.size :=hsr;generalize wr.drewN nq=wq at*;have HC0:=hid (show wq.drew.ownsRow w.heap.size 3 1 vc m.1.length (m.1.map (.int .i64)) from hcu);have MKX:=hid (λ(w5:World)(hg:(wq.alloc (.cells #[.int .i64 s] 3)).drew.grownBy w5 vc.ownBlock)=>(hbox.alloc (.cells #[.int .i64 s] 3)).drew.grown hg (λe=>(hd _ e).1 rfl));have HG:=hid (λ(w5:World)(v5:Value) hg5 hown5 hat5=>zUc (B:=w.heap.size+1) (s:=s) (W1:=w5) (v5:=v5) (o:=(.cells #[.int .i64 s] 3)) (Nat.le_succ _) hbox hcu hki hd hqB hbel hg5 hown5 hat5);have hbs:=hbel.size;clear hbox hcu hki hd hqB hbel;go_region_law(refine zDd rfl (.tmp 37) (.tmp 42) _ rfl Tryz.underlying31 Tryz.eInt rfl (HC0.out.alloc _) rfl (news:=[.int .i64 s]) rfl (one_cell (by have:=(Blk.new wq 3 #[.int .i64 s]).drew.cell 0;exact this)) (by simp[Value.oneCell']) (by unfold maxLen;omega) (by omega) (by show w.heap.size≤(wq.alloc _).heap.size;simp;omega) ?_;intro v5 w5 hown5 hg5 hat5;obtain⟨g5,cap5,hv5⟩:=zAZ hown5;subst hv5;have hM5:=MKX.out _ hg5;have d0:=hM5.cell 2;have d1:=hM5.frozen 2;have d2:=hM5.lt)
    all_goals
     obtain⟨vc2,vq2,hbox,hcu,hki,hd,hqB,hbel⟩:=HG.out _ _ hg5 hown5 hat5;clear hown5 hg5 hat5 b2 b3 hc1 hc2 hqcell;(go_upto_region 7 with fail);generalize w5.setCell ⟨w.heap.size+1,2,none⟩ (.slice (some ⟨g5,0,none⟩) (m.1.length+1) cap5)=w6 at*;clear hM5 d0 d1 d2;obtain⟨qb2,qcap2,rfl⟩:=zAZ (n:=m.2.length) hki;have b3:=hbox.at3;have bl2:=hbox.lt;have hc1:=HX1.out _ hbel;have HC1:=hid (show w6.drew.ownsRow w.heap.size 3 1 (.slice (some ⟨qb2,0,none⟩) (m.2.length+1) qcap2) (m.2.length+1) ((k0::m.2).map (.int .i64)) from hki);have MKY:=hid (λ(w7:World)(hg:(w6.alloc (.cells #[.int .i64 x] 3)).drew.grownBy w7 (Value.slice (some ⟨qb2,0,none⟩) (m.2.length+1) qcap2).ownBlock)=>(hbox.alloc (.cells #[.int .i64 x] 3)).drew.grown hg (λe=>(hqB _ e) rfl));have HH:=hid (λ(w7:World)(v7:Value) hg7 hown7 hat7=>zUd (B:=w.heap.size+1) (s:=x) (W1:=w7) (v5:=v7) (o:=(.cells #[.int .i64 x] 3)) (Nat.le_succ _) hbox hcu hki hd hqB hbel hg7 hown7 hat7);have hbs2:=hbel.size;clear hbox hcu hki hd hqB hbel;go_region_law(refine zDd rfl (.tmp 46) (.tmp 51) _ rfl Tryz.underlying31 Tryz.eInt rfl (HC1.out.alloc _) rfl (news:=[.int .i64 x]) rfl (one_cell (by have:=(Blk.new w6 3 #[.int .i64 x]).drew.cell 0;exact this)) (by simp[Value.oneCell']) (by unfold maxLen;omega) (by omega) (by show w.heap.size≤(w6.alloc _).heap.size;simp;omega) ?_;intro v7 w7 hown7 hg7 hat7;obtain⟨g7,cap7,hv7⟩:=zAZ hown7;subst hv7;have hM7:=MKY.out _ hg7;have d0:=hM7.cell 3;have d1:=hM7.frozen 3;have d2:=hM7.lt)
     all_goals
      have HI2:=hid (HH.out _ _ hg7 hown7 hat7);clear hown7 hg7 hat7 b3 hc1;go_wp2;go_roundw
      case rel=>
       refine⟨k+1,by omega,by omega,by go_num,?_⟩;rw[HN.out];exact HI2.out
      case measure=>simp[intOf];omega
  ·(obtain rfl:k=kids.length:=by omega);rw[zKN.out]at hcu hki;have hsh:=HSH.out kids.length;rw[zKN.out]at hsh;have hch:=HML.out kids.length;rw[zKN.out]at hch;generalize zM k0 starts kids=m at*;obtain⟨qb,qcap,rfl⟩:=zAZ (n:=m.2.length) hki;have b0:=hbox.at0;have b1:=hbox.at1;have b2:=hbox.at2;have b3:=hbox.at3;have bl:=hbox.lt;have hc0:=brd hbel h0c hkb;have hkr:=Nat.lt_of_lt_of_le hkb hbel.size;(have hmk:m.2.length≤1000000:=by simp at hsh;omega);(have hmc:m.1.length≤1000000:=by omega);clear hsh hch;by_cases hq:m.2=[]
   ·(have e1:(((m.2.length+1:Nat):Int)==1)=true:=by rw[hq];rfl);have HE:=hid (zDO.out.trans (if_pos hq));have HBL:=hid hbel;clear hq hbox hcu hki hd hqB hbel;go_wp2;go_ret;rw[HE.out];exact⟨rfl,⟨F,Z,HR.out.below HBL.out,λb hb=>Or.inl hb,λb hb=>Or.inl hb⟩,.of_below HBL.out⟩
   ·have e1:(((m.2.length+1:Nat):Int)==1)=false:=by
     (have:m.2.length≠0:=λe=>hq (List.eq_nil_of_length_eq_zero e));simp;omega
    have HE:=hid (zDO.out.trans (if_neg hq));have hvc:=zCl hcu HFS.out (by omega);have hvq:=zCl hki HFK.out (by simp;omega)
    have HAD:=hid (zLd M all F Z (λb=>vc.ownBlock=some b∨(Value.slice (some ⟨qb,0,none⟩) (m.2.length+1) qcap).ownBlock =some b) ⟨false,i,m.1,k0::m.2⟩ [.bool false,.int .i64 i,vc,.slice (some ⟨qb,0,none⟩) (m.2.length+1) qcap] wr (HR.out.below hbel) ⟨vc,_,rfl,HI.out,hvc.mono λ_ h=>Or.inl h,hvq.mono λ_ h=>Or.inr h⟩ (λb hb=>by
     have hg:w.heap.size≤b∧b<wr.heap.size:=hb.elim (λh=>hcu.lt b h) (λh=>hki.lt b h)
     exact⟨λhf=>by have:=HR.out.liveF b hf;omega,hg.2⟩) hlen)
    have HBL:=hid hbel;have HZB:=hid (show ∀b,(vc.ownBlock=some b∨(Value.slice (some ⟨qb,0,none⟩) (m.2.length+1) qcap).ownBlock =some b)->w.heap.size≤b from λb hb=>hb.elim (λh=>(hcu.lt b h).1) (λh=>(hki.lt b h).1));clear hq hbox hcu hki hd hqB hbel hvc hvq;(go_wp2_with fail);refine HAD.out.mono ?_;rintro e w9 ⟨rfl,hp⟩;have HP:=hid (zFM HBL.out HZB.out ⟨rfl,hp⟩);clear hp;go_wp2;go_ret;rw[HE.out];exact HP.out
end Go.Proofs.YtonmdbdopchkaaaGreatDoor
