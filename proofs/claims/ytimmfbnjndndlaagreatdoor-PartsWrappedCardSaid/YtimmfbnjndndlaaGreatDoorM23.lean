/- Texts ND NE NF. -/
import Derived.Test.YtimmfbnjndndlaaGreatDoorM15
import Derived.RangeFuncNested
import Derived.RangeFuncBound
import Derived.RangeFuncCalls
import Derived.RangeFuncLeaves
import Derived.RangeFuncBox
import Derived.Shelf.Abstract
import Derived.Shelf.RegionOpen
import Derived.OwnWalkIn
import Derived.TacticsInMore
import Derived.LoopNIn
import Derived.LoopIn
set_option linter.all false
namespace Go.Proofs.YtimmfbnjndndlaaGreatDoor
open Go.RowKit
set_option maxHeartbeats 8000000
set_option maxRecDepth 100000
section
open Go.Shelf
def sgnZ(a b:Int):Int:=if a<b then-1 else if b<a then 1 else 0
theorem cmpInt_any(a b:Int)(w:World):Calls Tryz.prog 163 #[.int .i64 a,.int .i64 b] w λe w'=>e= .returned (.int .i64 (sgnZ a b))∧w=w':=by
 have HE:=hid (show sgnZ a b=if a<b then-1 else if b<a then 1 else 0 from rfl);have e1:(a !=a)=false:=by simp
 have e2:(b !=b)=false:=by simp
 by_cases h:a<b
 ·have e3:decide (a<b)=true:=decide_eq_true h;rw[if_pos h]at HE;generalize sgnZ a b=s at*;go_enter Tryz.func163,Tryz.ntmps163
  go_wp2;go_ret;refine⟨?_,rfl⟩;rw[HE.out];rfl
 ·have e3:decide (a<b)=false:=decide_eq_false h;rw[if_neg h]at HE;by_cases h':b<a
  ·have e4:decide (b<a)=true:=decide_eq_true h';rw[if_pos h']at HE;generalize sgnZ a b=s at*;(go_enter Tryz.func163,Tryz.ntmps163);go_wp2;go_ret;refine⟨?_,rfl⟩;rw[HE.out];rfl
  ·have e4:decide (b<a)=false:=decide_eq_false h';rw[if_neg h']at HE;generalize sgnZ a b=s at*;(go_enter Tryz.func163,Tryz.ntmps163);go_wp2;go_ret;refine⟨?_,rfl⟩;rw[HE.out];rfl
theorem cmpU_any(a b:Int)(w:World):Calls Tryz.prog 164 #[.int .u64 a,.int .u64 b] w λe w'=>e= .returned (.int .i64 (sgnZ a b))∧w=w':=by
 have HE:=hid (show sgnZ a b=if a<b then-1 else if b<a then 1 else 0 from rfl);have e1:(a !=a)=false:=by simp
 have e2:(b !=b)=false:=by simp
 by_cases h:a<b
 ·have e3:decide (a<b)=true:=decide_eq_true h;rw[if_pos h]at HE;generalize sgnZ a b=s at*;go_enter Tryz.func164,Tryz.ntmps164
  go_wp2;go_ret;refine⟨?_,rfl⟩;rw[HE.out];rfl
 ·have e3:decide (a<b)=false:=decide_eq_false h;rw[if_neg h]at HE;by_cases h':b<a
  ·have e4:decide (b<a)=true:=decide_eq_true h';rw[if_pos h']at HE;generalize sgnZ a b=s at*;(go_enter Tryz.func164,Tryz.ntmps164);go_wp2;go_ret;refine⟨?_,rfl⟩;rw[HE.out];rfl
  ·have e4:decide (b<a)=false:=decide_eq_false h';rw[if_neg h']at HE;generalize sgnZ a b=s at*;(go_enter Tryz.func164,Tryz.ntmps164);go_wp2;go_ret;refine⟨?_,rfl⟩;rw[HE.out];rfl
def revF(n k:Nat):List (Fin n):=(List.finRange n).reverse.take k
theorem revF_length{n k:Nat}(h:k≤n):(revF n k).length =k:=by simp[revF];omega
theorem revF_succ{n k j:Nat}(h:k<n)(hj:n-1-k=j):revF n (k+1)=revF n k++[⟨j,by omega⟩]:=by
 unfold revF;rw[List.take_succ_eq_append_getElem (by simpa using h)];congr 2;rw[List.getElem_reverse];apply Fin.ext;simp;exact hj
theorem revF_mem{n k:Nat}(x:Fin n)(h:x∈revF n k):n-k≤x.1:=by
 unfold revF at h;obtain⟨q,hq,e⟩:=List.getElem_of_mem h;rw[List.getElem_take,List.getElem_reverse]at e;have hq':q<k:=by rw[List.length_take]at hq;omega
 have hqn:q<n:=by rw[List.length_take,List.length_reverse,List.length_finRange]at hq;omega
 have:=congrArg Fin.val e;simp at this;omega
def encL(xs:List Nat)(x:Fin xs.length):Array Value:=#[.int .i64 ((x.1:Nat):Int),.int .u64 ((xs[x.1]:Nat):Int)]
theorem keepsZ_b{Z:Zone}{w:World}(hz:∀b,Z b->b<w.heap.size)(W:World)(l:Nat)(o o':Obj)(hl:w.heap.size≤l)(h:W.heap[l]? =some o)(h1:o.isCells=false)(h2:o.isWalk=false):Keeps Z W (W.putObj l o'):=
 Keeps.of_below_lt (belowK_b (w:=w) (Nat.le_refl _) W l o o' hl h h1 h2) (λb _ hb=>hz b hb)
attribute [local go_sem] Oper.semAt_some
theorem back1_in(F:Fence)(n:Nat)(h:F.fn 162)(hro:F.round=none)(hn:1≤n)(Z:Zone)(l Bs b off cap:Nat)(xs:List Nat)(hreach:xs.length≤1000000)(hZs:Z Bs)(hZb:Z b)(J Jx:List (Fin xs.length)->World->Prop)
  (hY:∀pre x W,J pre W->pre.length<xs.length->YieldAt F (n-1) Tryz.prog l (encL xs x) W λe W'=>
   (e= .returned (.bool true)∧J (pre++[x]) W'∧Keeps Z W W')∨(e= .returned (.bool false)∧Jx (pre++[x]) W'))
  (W:World)(hBs:W.cell? ⟨Bs,0,none⟩=some (.slice (some ⟨b,off,none⟩) xs.length cap))(hc:∀j(hj:j<xs.length),W.cell? ⟨b,off+j,none⟩=some (.int .u64 ((xs[j]:Nat):Int)))(h0:J [] W):
  CallsIn F n Tryz.prog 162 #[.func (.yield l) #[] #[],.pointer (some ⟨Bs,0,none⟩)] W λe W'=>(∃v,e= .returned v)∧
   ((∃ys,ys=revF xs.length xs.length∧J ys W')∨(∃pre,(∃k,k≤xs.length∧pre=revF xs.length k)∧Jx pre W')):=by
 refine callsIn_of_wp Tryz.func162 rfl h ?_ hro;simp only[Tryz.ntmps162,List.size_toArray,List.length_cons,List.length_nil,Nat.reduceAdd,Nat.reduceSub,Array.replicate_succ,Array.replicate_zero,List.push_toArray,List.append_toArray,List.nil_append,List.cons_append];have hw0:IntKind.i64.wrap ((xs.length:Int)-1)=(xs.length:Int)-1:=by rw[IntKind.wrap_i64];omega
 gi_wp2
 gi_loopw [3] (λi wr=>∃k:Nat,k≤xs.length∧i= .int .i64 ((xs.length:Int)-1-(k:Int))∧J (revF xs.length k) wr∧Keeps Z W wr)
  (λi _=>(intOf i+1).toNat)
 case atStart=>exact⟨0,Nat.zero_le _,by simp,h0,Keeps.refl _ _⟩
 case round=>
  obtain⟨k,hk,rfl,hJs,hnx⟩:=hrel;by_cases hlt:k<xs.length
  ·obtain⟨j,hj⟩:∃j,xs.length-1-k=j:=⟨_,rfl⟩;(have hji:(xs.length:Int)-1-(k:Int)=(j:Int):=by omega);(have hjl:j<xs.length:=by omega);have c0:=hnx.cell (p:=⟨Bs,0,none⟩) hZs hBs;have c1:=hnx.cell (p:=⟨b,off+j,none⟩) hZb (hc j hjl);obtain⟨fn,tmps,assign,body,hy,hR⟩:=hY _ ⟨j,hjl⟩ wr hJs (by rw[revF_length hk];exact hlt);dsimp only[encL]at hy;have hS:=revF_succ hlt hj;(have hj1:(j:Int)<(xs.length:Int):=by omega);(have hj0:(0:Int)≤(j:Int):=by omega);(have hw1:IntKind.i64.wrap ((j:Int)-1)=(j:Int)-1:=by rw[IntKind.wrap_i64];omega);have HK:=hid (show(j:Int)-1=(xs.length:Int)-1-((k+1:Nat):Int) from by omega);rw[hji];generalize xs[j]=x at*
   gi_wp2
   refine hR.mono ?_;rintro e W3 (⟨rfl,hJ3,hk3⟩|⟨rfl,hJx3⟩)
   ·gi_wp2
    go_roundw;(case rel=>exact⟨k+1,by omega,by rw[<-HK.out],by rw[hS];exact hJ3,hnx.trans hk3⟩);case measure=>simp[intOf]
   ·gi_wp2
    refine bodyPost_ret (results_none rfl _ _ _) rfl ?_;exact⟨⟨_,rfl⟩,.inr ⟨_,⟨k+1,by omega,hS.symm⟩,hJx3⟩⟩
  ·(obtain rfl:k=xs.length:=by omega);rw[show(xs.length:Int)-1-(xs.length:Int)= -1 from by omega]
   gi_wp2
   go_end0;exact⟨⟨_,rfl⟩,.inl ⟨_,rfl,hJs⟩⟩
theorem back1_nil_in(F:Fence)(n:Nat)(h:F.fn 162)(hro:F.round=none)(l Bs:Nat)(A:Option Addr)(cap:Nat){α:Type}(J:List α->World->Prop)(W:World)(hBs:W.cell? ⟨Bs,0,none⟩=some (.slice A 0 cap))(h0:J [] W):
  CallsIn F n Tryz.prog 162 #[.func (.yield l) #[] #[],.pointer (some ⟨Bs,0,none⟩)] W λe W'=>(∃v,e= .returned v)∧J [] W':=by
 refine callsIn_of_wp Tryz.func162 rfl h ?_ hro;simp only[Tryz.ntmps162,List.size_toArray,List.length_cons,List.length_nil,Nat.reduceAdd,Nat.reduceSub,Array.replicate_succ,Array.replicate_zero,List.push_toArray,List.append_toArray,List.nil_append,List.cons_append]
 gi_wp2
 gi_loopw [3] (λi wr=>i= .int .i64 (-1)∧J [] wr) (λ_ _=>0)
 case atStart=>exact⟨rfl,h0⟩
 case round=>
  obtain⟨rfl,hJs⟩:=hrel
  gi_wp2
  go_end0;exact⟨⟨_,rfl⟩,hJs⟩
theorem back_in(F:Fence)(n:Nat)(h:F.fn 126)(hro:F.round=none)(A:Option Addr)(len cap:Nat)(w:World):
  CallsIn F n Tryz.prog 126 #[.slice A len cap] w λe w'=>e= .returned (.func (.func 162) #[] #[.pointer (some ⟨w.heap.size,0,none⟩)])∧w'=w.alloc (.cells #[.slice A len cap] 157):=by
 refine callsIn_of_wp Tryz.func126 rfl h ?_ hro;simp only[Tryz.ntmps126,List.size_toArray,List.length_cons,List.length_nil,Nat.reduceAdd,Nat.reduceSub,Array.replicate_succ,Array.replicate_zero,List.push_toArray,List.append_toArray,List.nil_append,List.cons_append]
 gi_wp2
 go_ret;exact⟨rfl,rfl⟩
theorem back_stops(F:Fence)(n:Nat)(h:F.fn 162)(hro:F.round=none)(hn:1≤n)(Z Zl:Zone)(Bs:Nat)(A:Option Addr)(cap:Nat)(xs:List Nat)(hreach:xs.length≤1000000)(w:World)(hBs:Bs<w.heap.size)(hZs:Z Bs)
  (hc:w.cell? ⟨Bs,0,none⟩=some (.slice A xs.length cap))(hL:Lims Zl w (.slice A xs.length cap) xs)(hZl:∀b,Zl b->Z b):
  SeqStopsK F n Tryz.prog 162 #[.pointer (some ⟨Bs,0,none⟩)] (encL xs) (Keeps Z) (λys=>ys=revF xs.length xs.length)
   (λpre=>∃k,k≤xs.length∧pre=revF xs.length k) xs.length w:=λl J Jx W hW _ _ hY h0=>by
 have hc':=brd hW hc hBs;by_cases h0l:xs=[]
 ·subst h0l;exact(back1_nil_in F n h hro l Bs A cap J W hc' h0).mono λe W' ⟨he,hj⟩=>⟨he,.inl ⟨_,rfl,hj⟩⟩
 ·have hpos:0<xs.length:=List.length_pos_iff.2 h0l;obtain⟨b,off,rfl,hz,hb,-⟩:=hL.at_ (i:=0) hpos
  exact back1_in F n h hro hn Z l Bs b off cap xs hreach hZs (hZl b hz) J Jx hY W hc' (λj hj=>by
   obtain⟨b',off',e,-,hb',hcj⟩:=hL.at_ (i:=j) hj;injection e with e;injection e with e1 e2;subst e1 e2
   exact brd hW hcj hb') h0
end
section
open Go.Shelf
attribute [local go_sem] Oper.semAt_some
theorem sgn_lt{a b:Int}(h:a<b):sgnZ a b= -1:=if_pos h
theorem sgn_gt{a b:Int}(h:b<a):sgnZ a b=1:=by unfold sgnZ;rw[if_neg (by omega),if_pos h]
theorem sgn_eq(a:Int):sgnZ a a=0:=by unfold sgnZ;rw[if_neg (by omega),if_neg (by omega)]
theorem sgn_len{n m:Nat}(h:(digs n).length ≠(digs m).length):sgnZ ((digs n).length :Int) ((digs m).length :Int)=sgnZ (n:Int) (m:Int)∧sgnZ (n:Int) (m:Int)≠0:=by
 rcases Nat.lt_or_gt_of_ne h with h|h
 ·have:=lv_longer (digs_canon n).1.limbs (digs_canon m).1 h;rw[(digs_canon n).2,(digs_canon m).2]at this;rw[sgn_lt (by omega),sgn_lt (by omega)];exact⟨rfl,by decide⟩
 ·have:=lv_longer (digs_canon m).1.limbs (digs_canon n).1 h;rw[(digs_canon n).2,(digs_canon m).2]at this;rw[sgn_gt (by omega),sgn_gt (by omega)];exact⟨rfl,by decide⟩
theorem Lims.live{Z:Zone}{w:World}{v:Value}{l:List Nat}(h:Lims Z w v l):Lims (λb=>Z b∧b<w.heap.size) w v l:=by
 obtain⟨⟨A,cap,e,h1,h2,h3,hr⟩,hf⟩:=h;refine⟨⟨A,cap,e,h1,h2,h3,λhne=> ?_⟩,hf⟩;obtain⟨b,off,e,hz,hc⟩:=hr hne;have h0:0<(l.map lim).length :=List.length_pos_iff.2 hne;exact⟨b,off,e,⟨hz,lt_of_cell (hc 0 _ (List.getElem?_eq_getElem h0))⟩,hc⟩
theorem ncompare_any(Z Z':Zone)(v v':Value)(n m:Nat)(w:World)(hn:NumS Z w v n)(hm:NumS Z' w v' m)(h1:(digs n).length ≤1000000)(h2:(digs m).length ≤1000000):
  Calls Tryz.prog 127 #[v,v'] w λe w'=>e= .returned (.int .i64 (sgnZ (n:Int) (m:Int)))∧Below w.heap.size w w':=by
 obtain⟨A,cap,rfl,hl1⟩:=Lims.part hn;obtain⟨A',cap',rfl,hl2⟩:=Lims.part hm;have HN:=hid hn;have HM:=hid hm;clear hn hm;have HSL:=hid (@sgn_len n m);obtain⟨la,hla⟩:∃la,(digs n).length =la:=⟨_,rfl⟩;obtain⟨lb,hlb⟩:∃lb,(digs m).length =lb:=⟨_,rfl⟩;rw[hla,hlb]at HSL;rw[hla]at HN hl1 h1;rw[hlb]at HM hl2 h2;rw[hla,hlb];have HL:=hid (And.intro hla hlb);have HCI:=hid (λ(w:World)=>(callsIn_wide (n:=4)).2 (cmpInt_any la lb w));clear hla hlb;refine(callsIn_wide (n:=5)).1 ?_;by_cases hne:la=lb
 ·subst hne;clear HSL;have hs:=sgn_eq (la:Int);have e1:((0:Int)!=0)=false:=rfl;rw[hs]at HCI;clear hs;refine callsIn_of_wp_marks Tryz.func127 rfl trivial ?_ rfl;simp only[Tryz.ntmps127,List.size_toArray,List.length_cons,List.length_nil,Nat.reduceAdd,Nat.reduceSub,Array.replicate_succ,Array.replicate_zero,List.push_toArray,List.append_toArray,List.nil_append,List.cons_append]
  gi_wp2_with (first
   |(refine⟨trivial,?_⟩;gi_at_call 163;refine(HCI.out _).mono ?_;rintro e w' ⟨rfl,rfl⟩)
   |(refine⟨trivial,?_⟩;gi_at_call 126;refine(back_in Fence.wide _ trivial rfl _ _ _ _).mono ?_;rintro e w' ⟨rfl,rfl⟩))
  have bM:=Boxed.new w 157 (.slice A' la cap');have bR:=Boxed.new (w.alloc (.cells #[.slice A' la cap'] 157)) 3 (.int .i64 0);rw[World.size_alloc]at bR;have bN:=Boxed.new ((w.alloc (.cells #[.slice A' la cap'] 157)).alloc (.cells #[.int .i64 0] 3)) 157 (.slice A la cap);rw[World.size_alloc,World.size_alloc]at bN
  have hB0:Below w.heap.size w (((w.alloc (.cells #[.slice A' la cap'] 157)).alloc (.cells #[.int .i64 0] 3)).alloc (.cells #[.slice A la cap] 157)):=
   (((Below.refl _ w).alloc (Nat.le_refl _) _).alloc (by simp) _).alloc (by simp;omega) _
  have HB0:=hid hB0
  refine wpIn_rangeFunc_ownG rfl (by omega) (gf:=162) (lb:=#[.pointer (some ⟨w.heap.size+1+1,0,none⟩)]) rfl trivial (enters_of Tryz.func162 (by kernel_rfl) rfl)
   (back_stops Fence.wide _ trivial rfl (by omega) (λb=>b<w.heap.size+1+1+1∧b≠w.heap.size+1) (λb=>Z b∧b<w.heap.size) (w.heap.size+1+1) A cap (digs n) (by rw[HL.out.1];exact h1) _ (by simp) (by simp) (by rw[HL.out.1];exact bN.cell) (by rw[HL.out.1];exact(Lims.live HN.out).keep (.of_below hB0)) (λb hb=>⟨by have:=hb.2;omega,by have:=hb.2;omega⟩))
   (λh k=>Keeps.trans h k) (keepsZ_b (by intro b hb;simp;omega)) (Below.refl _ _) (λ_=>rfl)
   (λpre W=>((∀p∈pre,(digs n)[p.1]=(digs m).getD p.1 0)∧W.cell? ⟨w.heap.size,0,none⟩=some (.slice A' la cap')∧W.cell? ⟨w.heap.size+1,0,none⟩=some (.int .i64 0)∧W.frozen? ⟨w.heap.size+1,0,none⟩=false)∧Below w.heap.size w W)
   (λc pre W=>(c= .ret ∧∃ini last,pre=ini++[last]∧(∀p∈ini,(digs n)[p.1]=(digs m).getD p.1 0)∧(digs n)[last.1]≠(digs m).getD last.1 0∧W.cell? ⟨w.heap.size+1,0,none⟩=some (.int .i64 (sgnZ (((digs n)[last.1]:Nat):Int) (((digs m).getD last.1 0:Nat):Int))))∧Below w.heap.size w W)
   (OwnFrom.and (Own.from (λs A B row hs hg hr=>⟨hs.1,cell_kept hs.2.1 hg hr,cell_kept hs.2.2.1 hg hr,(frozen_kept hs.2.2.1 hg hr).trans hs.2.2.2⟩) _) (ownFrom_below (Nat.le_refl _) (by simp;omega)))
   (λc=>OwnFrom.and (Own.from (λs A B row hs hg hr=>by obtain⟨hc,ini,last,e1,e2,e3,e4⟩:=hs;exact⟨hc,ini,last,e1,e2,e3,cell_kept e4 hg hr⟩) _) (ownFrom_below (Nat.le_refl _) (by simp;omega)))
   ⟨⟨by simp,((bM.alloc _).alloc _).cell,(bR.alloc _).cell,(bR.alloc _).frozen⟩,hB0⟩
   (λx=>{tmps:=#[.slice A la cap,.slice A' la cap',undef,.pointer (some ⟨w.heap.size,0,none⟩),.pointer (some ⟨w.heap.size+1,0,none⟩),.int .i64 0,.int .i64 ((x.1:Nat):Int),.int .u64 (((digs n)[x.1]:Nat):Int),undef,.slice A la cap,.int .i64 la,.slice A' la cap',.int .i64 la,.int .i64 0,.int .i64 0,.bool false,undef,.slice A la cap,.func (.func 162) #[] #[.pointer (some ⟨w.heap.size+1+1,0,none⟩)],.int .i64 ((x.1:Nat):Int),.int .u64 (((digs n)[x.1]:Nat):Int),undef,undef,undef,undef,undef,undef,undef,undef,undef],defers:=[]}) ?assign ?body ?done ?stop
  case assign=>
   intro l x W K hK;unfold encL
   gi_wp2
   exact hK
  case body=>
   rintro l pre x W ⟨⟨hp,hm0,hr0,hf0⟩,hB⟩ _;(have hxm:x.1<(digs m).length :=by rw[HL.out.2,<-HL.out.1];exact x.2);obtain⟨b',off',rfl,hz',hb',hc'⟩:=HM.out.at_ (i:=x.1) hxm;have c0':=brd hB hc' hb';(have hg:(digs m).getD x.1 0=(digs m)[x.1]:=by simp[List.getD_eq_getElem?_getD,hxm]);(have hxl:((x.1:Nat):Int)<(la:Int):=by have:=HL.out.2;omega);(have hx0:(0:Int)≤((x.1:Nat):Int):=by omega);have HP:=hid hp;have HX:=hid (λ(q:(digs n)[x.1]=(digs m).getD x.1 0)(p:Fin (digs n).length)(h:p∈pre++[x])=>(show(digs n)[p.1]=(digs m).getD p.1 0 from(List.mem_append.1 h).elim (hp p) (λh=>by rw[List.mem_singleton.1 h];exact q)));have HCV:=hid (λ(N:Nat)(w:World)=>(callsIn_wide (n:=N)).2 (cmpU_any (((digs n)[x.1]:Nat):Int) (((digs m)[x.1]:Nat):Int) w))
   have HIX:=hid (λ(h:(digs n)[x.1]≠(digs m).getD x.1 0)(V:World)(hV:V.cell? ⟨w.heap.size+1,0,none⟩=some (.int .i64 (sgnZ (((digs n)[x.1]:Nat):Int) (((digs m).getD x.1 0:Nat):Int))))=>
    (show Code.ret= .ret ∧∃ini last,pre++[x]=ini++[last]∧(∀p∈ini,(digs n)[p.1]=(digs m).getD p.1 0)∧(digs n)[last.1]≠(digs m).getD last.1 0∧V.cell? ⟨w.heap.size+1,0,none⟩=some (.int .i64 (sgnZ (((digs n)[last.1]:Nat):Int) (((digs m).getD last.1 0:Nat):Int))) from⟨rfl,pre,x,rfl,hp,h,hV⟩))
   rw[hg]at HX HIX;generalize (digs m)[x.1]=y at*;generalize hxx:(digs n)[x.1]=xv at*;clear hp hc' hg;by_cases he:xv=y
   ·subst he;rw[sgn_eq]at HCV;have e0:((0:Int)!=0)=false:=rfl
    gi_wp2_with (refine⟨trivial,?_⟩;gi_at_call 164;refine(CallsIn.inRound l (HCV.out _ _)).mono ?_;rintro e w' ⟨rfl,rfl⟩)
    exact⟨KeepsFrom.refl _ _,Keeps.refl _ _,⟨HX.out trivial,hm0,hr0,hf0⟩,hB⟩
   ·have hs:sgnZ (xv:Int) (y:Int)≠0:=by
     rcases Nat.lt_or_gt_of_ne he with h|h
     ·rw[sgn_lt (by omega)];decide
     ·rw[sgn_gt (by omega)];decide
    (have e0:(sgnZ (xv:Int) (y:Int)!=0)=true:=by simpa using hs);have HI2:=hid (HIX.out he);generalize sgnZ (xv:Int) (y:Int)=s at*
    gi_wp2_with (refine⟨trivial,?_⟩;gi_at_call 164;refine(CallsIn.inRound l (HCV.out _ _)).mono ?_;rintro e w' ⟨rfl,rfl⟩)
    exact⟨(KeepsOthers.setCell _ _ _).from _,⟨rfl,(HI2.out _ (World.cell?_setCell_same' W _ _ (by rw[hr0];rfl))).2⟩,hB.setCell (p:=⟨w.heap.size+1,0,none⟩) (Nat.le_succ _) _⟩
  case done=>
   rintro D ys W hD rfl ⟨⟨hne,hm0,hr0,hf0⟩,hB⟩ hK
   have HE:=hid (show sgnZ (n:Int) (m:Int)=0 from by
    have hl:digs n=digs m:=List.ext_getElem (by rw[HL.out.1,HL.out.2]) (λq h1 h2=>by
     have:=hne ⟨q,h1⟩ (by rw[revF,List.take_of_length_le (by simp)];simp);rw[this]
     simp[List.getD_eq_getElem?_getD,h2])
    have:n=m:=by rw[<-(digs_canon n).2,hl,(digs_canon m).2]
    rw[this,sgn_eq])
   clear hne
   gi_wp2
   have hK':=(KeepsOthers.setCell W ⟨w.heap.size+1,0,none⟩ (.int .i64 0)).same D _ hK rfl;refine⟨by simp,.inl ⟨_,_,rfl,run_takeDeferred hK',?_⟩⟩;have hc5:=cell_kept (World.cell?_setCell_same' W ⟨w.heap.size+1,0,none⟩ (.int .i64 0) (by rw[hr0];rfl)) (grownBy_putObj' _ D (.deferred none)) (λr e=>by cases e;exact⟨_,hK',rfl⟩);refine⟨.int .i64 0,?_,by rw[HE.out],(hB.setCell (p:=⟨w.heap.size+1,0,none⟩) (Nat.le_succ _) _).trans (belowK_b (w:=w) (Nat.le_refl _) _ D _ _ (by simp at hD;omega) hK' rfl rfl)⟩;simp[results,Tryz.f127,go_sem,hc5]
  case stop=>
   rintro D c pre W hD ⟨k,hk,rfl⟩ ⟨⟨rfl,ini,last,e1,e2,e3,hcr⟩,hB⟩ hK
   have HE:=hid (show sgnZ (((digs n)[last.1]:Nat):Int) (((digs m).getD last.1 0:Nat):Int)=sgnZ (n:Int) (m:Int) from by
    have hlm:last.1<(digs m).length :=by rw[HL.out.2,<-HL.out.1];exact last.2
    obtain⟨k',rfl⟩:∃k',k=k'+1:=by
     cases k with
     |zero=>simp[revF]at e1
     |succ k'=>exact⟨k',rfl⟩
    rw[revF_succ (j:=(digs n).length -1-k') (by omega) rfl]at e1;obtain⟨rfl,e5⟩:=List.append_inj' e1 rfl
    have hlv:(digs n).length -1-k'=last.1:=by
     have:=congrArg Fin.val (List.singleton_inj.1 e5);exact this
    have hdr:(digs n).drop (last.1+1)=(digs m).drop (last.1+1):=by
     refine List.ext_getElem (by simp[HL.out.1,HL.out.2]) (λq h1 h2=> ?_);rw[List.length_drop]at h1 h2;rw[List.getElem_drop,List.getElem_drop];have hq:last.1+1+q<(digs n).length :=by omega
     have hmem:(⟨last.1+1+q,hq⟩:Fin (digs n).length)∈revF (digs n).length k':=by
      unfold revF;rw[List.mem_take_iff_getElem];refine⟨(digs n).length -1-(last.1+1+q),by simp;omega,?_⟩;rw[List.getElem_reverse];apply Fin.ext;simp;omega
     have:=e2 _ hmem;simp only at this;rw[this];simp[List.getD_eq_getElem?_getD,(show last.1+1+q<(digs m).length by omega)]
    (have hg:(digs m).getD last.1 0=(digs m)[last.1]:=by simp[List.getD_eq_getElem?_getD,hlm]);rw[hg]at e3⊢;rcases Nat.lt_or_gt_of_ne e3 with h|h
    ·have:=lv_top (digs_canon n).1.limbs (digs_canon m).1.limbs last.2 hlm hdr h;rw[(digs_canon n).2,(digs_canon m).2]at this;rw[sgn_lt (by omega),sgn_lt (by omega)]
    ·have:=lv_top (digs_canon m).1.limbs (digs_canon n).1.limbs hlm last.2 hdr.symm h;rw[(digs_canon n).2,(digs_canon m).2]at this
     rw[sgn_gt (by omega),sgn_gt (by omega)])
   rw[HE.out]at hcr;clear e1 e2 e3
   gi_wp2
   refine⟨by simp,.inl ⟨_,_,rfl,run_takeDeferred hK,?_⟩⟩;have hc5:=cell_kept hcr (grownBy_putObj' _ D (.deferred none)) (λr e=>by cases e;exact⟨_,hK,rfl⟩);refine⟨.int .i64 (sgnZ (n:Int) (m:Int)),?_,rfl,hB.trans (belowK_b (w:=w) (Nat.le_refl _) W D _ _ (by simp at hD;omega) hK rfl rfl)⟩;simp[results,Tryz.f127,go_sem,hc5]
 ·have hs:=(HSL.out hne).1;have hs0:=(HSL.out hne).2;rw[<-hs]at hs0;have e1:(sgnZ (la:Int) (lb:Int)!=0)=true:=by simpa using hs0
  rw[<-hs];generalize sgnZ (la:Int) (lb:Int)=s at*;clear HSL hs HN HM HL hne;refine callsIn_of_wp_marks Tryz.func127 rfl trivial ?_ rfl;simp only[Tryz.ntmps127,List.size_toArray,List.length_cons,List.length_nil,Nat.reduceAdd,Nat.reduceSub,Array.replicate_succ,Array.replicate_zero,List.push_toArray,List.append_toArray,List.nil_append,List.cons_append]
  gi_wp2_with (refine⟨trivial,?_⟩;gi_at_call 163;refine(HCI.out _).mono ?_;rintro e w' ⟨rfl,rfl⟩)
  refine⟨.int .i64 s,?_,rfl,?_⟩
  ·simp[results,Tryz.f127,go_sem]
  ·exact(((Below.refl _ _).alloc (Nat.le_refl _) _).alloc (by simp) _)
end
theorem search_any(g:Nat)(cb:Array Value)(n:Nat)(p:Nat->Bool)(w:World)(eg:∀args w,(callFunc g args).run Tryz.prog w= .ok (.enter g args) w)(hn:n≤1000000000000)
  (hf:∀i,i<n->∀W,Below w.heap.size w W->Calls Tryz.prog g (#[.int .i64 (i:Int)]++cb) W λe W'=>e= .returned (.bool (p i))∧Below W.heap.size W W')
  (hmono:∀a b,a≤b->b<n->p a=true->p b=true):
  Calls Tryz.prog 128 #[.int .i64 (n:Int),.func (.func g) #[] cb] w λe w'=>∃d:Nat,e= .returned (.int .i64 (d:Int))∧d≤n∧(∀t,t<d->p t=false)∧(d<n->p d=true)∧Below w.heap.size w w':=by
 have HF:=hid hf;have HM:=hid hmono;clear hf hmono;go_enter Tryz.func128,Tryz.ntmps128
 go_wp2;go_loopw[5,6] (λs5 s6 wr=>∃(lo hi:Nat),s5= .int .i64 lo∧s6= .int .i64 hi∧lo≤hi∧hi≤n∧Hid ((∀t,t<lo->p t=false)∧(hi<n->p hi=true))∧Below w.heap.size w wr) (λs5 s6 _=>(intOf s6).toNat -(intOf s5).toNat);case atStart=>exact⟨0,n,rfl,rfl,Nat.zero_le _,Nat.le_refl _,hid ⟨λt ht=>absurd ht (Nat.not_lt_zero _),λh=>absurd h (Nat.lt_irrefl _)⟩,Below.refl _ _⟩
 case round=>
  obtain⟨lo,hi,rfl,rfl,hlh,hin,hI,hbel⟩:=hrel;by_cases hlt:lo<hi
  ·have hc:=HF.out ((lo+hi) / 2) (by omega) wr hbel;rw[show(((lo+hi) / 2:Nat):Int)=((lo:Int)+(hi:Int)) / 2 by omega]at hc;have e1:decide (lo<hi)=true:=decide_eq_true hlt;cases hp:p ((lo+hi) / 2)<;>rw[hp]at hc
   ·have HN:=hid (show(∀t,t<(lo+hi) / 2+1->p t=false)∧(hi<n->p hi=true) from⟨λt ht=>by
     by_cases h:p t=true
     ·have:=HM.out t ((lo+hi) / 2) (by omega) (by omega) h;rw[hp]at this;cases this
     ·simpa using h,hI.out.2⟩)
    have HC:=hid (And.intro hc hbel);clear hp hc hbel hI;go_wp2_with(go_at_fn g;refine HC.out.1.mono ?_;rintro e w' ⟨rfl,hb⟩;have HB:=hid (HBEL_trans HC.out.2 hb);clear hb);go_roundw;(case rel=>exact⟨(lo+hi) / 2+1,hi,by go_num,rfl,by omega,hin,HN,HB.out⟩);case measure=>simp[intOf];omega
   ·have HN:=hid (show(∀t,t<lo->p t=false)∧((lo+hi) / 2<n->p ((lo+hi) / 2)=true) from⟨hI.out.1,λ_=>hp⟩);have HC:=hid (And.intro hc hbel);clear hp hc hbel hI;go_wp2_with(go_at_fn g;refine HC.out.1.mono ?_;rintro e w' ⟨rfl,hb⟩;have HB:=hid (HBEL_trans HC.out.2 hb);clear hb);go_roundw;(case rel=>exact⟨lo,(lo+hi) / 2,rfl,by go_num,by omega,by omega,HN,HB.out⟩);case measure=>simp[intOf];omega
  ·(obtain rfl:lo=hi:=by omega);go_wp2;go_ret;exact⟨lo,rfl,hin,hI.out.1,hI.out.2,hbel⟩
end Go.Proofs.YtimmfbnjndndlaaGreatDoor
