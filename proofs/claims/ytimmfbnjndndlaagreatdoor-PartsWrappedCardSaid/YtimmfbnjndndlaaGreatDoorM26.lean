/- Texts NH NI. -/
import Derived.Test.YtimmfbnjndndlaaGreatDoorM25
import Derived.Test.YtimmfbnjndndlaaGreatDoorM14
set_option linter.all false
namespace Go.Proofs.YtimmfbnjndndlaaGreatDoor
open Go.RowKit
set_option maxHeartbeats 16000000
set_option maxRecDepth 100000
section
open Go.Shelf
structure DivI (xs:List Nat) (m:Nat) (l:List Nat) (R k:Nat):Prop where
 zero:∀j(hj:j<l.length),j<xs.length-k->l[j]=0
 val:lv (xs.drop (xs.length-k))=m*lv (l.drop (xs.length-k))+R
theorem DivI.start(xs:List Nat)(m:Nat):DivI xs m (List.replicate xs.length 0) 0 0:=
 ⟨λj hj _=>by simp,by rw[Nat.sub_zero,List.drop_length,List.drop_of_length_le (by simp)];simp[lv]⟩
theorem DivI.step{xs l:List Nat}{m R k j:Nat}(h:DivI xs m l R k)(hl:l.length=xs.length)(hk:k<xs.length)(hj:xs.length-1-k=j)(hm:0<m)(hR:R<m)(hx:Limbs xs)(hjx:j<xs.length):
  DivI xs m (l.set j ((xs[j]+1000000000*R) / m)) ((xs[j]+1000000000*R)%m) (k+1):=by
 have e:xs.length-(k+1)=j:=by omega
 have e':xs.length-k=j+1:=by omega
 obtain⟨h1,h2,h3⟩:=div_step (V:=lv (xs.drop (j+1))) (q:=lv (l.drop (j+1))) hm (by have:=h.val;rwa[e']at this) hR (hx.get hjx);refine⟨λq hq hqk=> ?_,?_⟩
 ·rw[List.getElem_set_ne (by omega)];exact h.zero q (by simpa using hq) (by omega)
 ·rw[e,List.drop_eq_getElem_cons hjx,List.drop_eq_getElem_cons (l:=l.set j _) (by simpa[hl]using hjx),List.getElem_set_self,List.drop_set_of_lt (Nat.lt_succ_self j)];exact h1
theorem DivI.skip{xs l:List Nat}{m R k j:Nat}(h:DivI xs m l R k)(hl:l.length=xs.length)(hk:k<xs.length)(hj:xs.length-1-k=j)(hm:0<m)(hR:R<m)(hx:Limbs xs)(hjx:j<xs.length)(hlt:xs[j]+1000000000*R<m):
  DivI xs m l (xs[j]+1000000000*R) (k+1):=by
 have:=h.step hl hk hj hm hR hx hjx;rw[Nat.div_eq_of_lt hlt,Nat.mod_eq_of_lt hlt]at this;have h0:=h.zero j (by omega) (by omega)
 have e:l.set j 0=l:=by
  have:=List.set_getElem_self (i:=j) (show j<l.length by omega);rwa[h0]at this
 rwa[e]at this
theorem DivI.done{xs l:List Nat}{m R:Nat}(h:DivI xs m l R xs.length)(hm:0<m)(hR:R<m):lv l=lv xs / m∧R=lv xs%m:=by
 have hv:=h.val;rw[Nat.sub_self,List.drop_zero,List.drop_zero]at hv;rw[hv];refine⟨?_,?_⟩
 ·rw[Nat.mul_add_div hm,Nat.div_eq_of_lt hR,Nat.add_zero]
 ·rw[Nat.mul_add_mod,Nat.mod_eq_of_lt hR]
section kept
variable {A B:World} {row:Option Nat} (hg:A.grownBy B row) (hr:∀r,row=some r->∃o:Obj,A.heap[r]? =some o∧o.isCells=false)
include hg hr
theorem lims_kept{Z:Zone}{v:Value}{l:List Nat}(h:Lims Z A v l):Lims Z B v l:=by
 obtain⟨⟨a,cap,e,h1,h2,h3,hrow⟩,hf⟩:=h;refine⟨⟨a,cap,e,h1,h2,h3,λhne=> ?_⟩,hf⟩;obtain⟨b,off,e,hz,hc⟩:=hrow hne;exact⟨b,off,e,hz,λj u hu=>cell_kept (hc j u hu) hg hr⟩
theorem blk_kept{g:Nat}{t:TypeId}{cs:Array Value}(h:Blk A g t cs):Blk B g t cs:=by
 refine h.of_block (((Keeps.refl (λb=>b=g) A).grown hg (λk hk _ e=> ?_)).block g h.lt rfl);obtain⟨o,h1,h2⟩:=hr k hk;rw[show k=g from e,h]at h1;injection h1 with h1;subst h1;cases h2
end kept
end
section
open Go.Shelf
attribute [local go_sem] Oper.semAt_some
structure DvL (w W:World) (Bm Bq Bg Br:Nat) (vm:Value) (m la:Nat) (xs:List Nat) (pre:List (Fin xs.length)) (R:Nat) (l:List Nat) (vr:Value):Prop where
 bm:W.cell? ⟨Bm,0,none⟩=some vm
 bq:W.cell? ⟨Bq,0,none⟩=some (.slice (some ⟨Bg,0,none⟩) la la)
 br:Blk W Br 157 #[vr]
 row:Blk W Bg 184 (l.map lim).toArray
 len:l.length=la
 limbs:Limbs l
 rest:NumS (λb=>w.heap.size+1+1+1+1≤b) W vr R
 lt:R<m
 val:pre=revF xs.length pre.length->DivI xs m l R pre.length
 below:Below w.heap.size w W
def RdZ(w W:World):Zone:=λb=>b<W.heap.size∧b≠w.heap.size+1∧b≠w.heap.size+1+1+1
theorem rd_from{w W W':World}(h:Keeps (RdZ w W) W W'){B:Nat}(hB:w.heap.size+5≤B):KeepsFrom B W W':=
 ⟨h.size,λk o hk ho _=>(h.block k (lt_of_block ho) ⟨lt_of_block ho,by omega,by omega⟩).trans ho⟩
theorem rd_keeps{w W W':World}(h:Keeps (RdZ w W) W W'):Keeps (λb=>b<w.heap.size+5∧b≠w.heap.size+1∧b≠w.heap.size+1+1+1) W W':=
 h.mono λb hb hz=>⟨hb,hz.2⟩
theorem rd_below{w W W':World}(h:Keeps (RdZ w W) W W')(hs:w.heap.size≤W.heap.size):Below w.heap.size W W':=
 ⟨h.os,h.tape,h.output,h.size,λk hk=>h.block k (by omega) ⟨by omega,by omega,by omega⟩⟩
theorem DvL.next{w W W':World}{vm vr vr':Value}{m la R R':Nat}{xs:List Nat}{pre:List (Fin xs.length)}{x:Fin xs.length}{l l':List Nat}(h:DvL w W w.heap.size (w.heap.size+1+1) (w.heap.size+1) (w.heap.size+1+1+1) vm m la xs pre R l vr)
  (hk:Keeps (RdZ w W) W W')(br:Blk W' (w.heap.size+1+1+1) 157 #[vr'])(row:Blk W' (w.heap.size+1) 184 (l'.map lim).toArray)(len:l'.length=la)(limbs:Limbs l')
  (rest:NumS (λb=>w.heap.size+1+1+1+1≤b) W' vr' R')(lt:R'<m)(val:pre++[x]=revF xs.length (pre.length+1)->DivI xs m l' R' (pre.length+1)):
  DvL w W' w.heap.size (w.heap.size+1+1) (w.heap.size+1) (w.heap.size+1+1+1) vm m la xs (pre++[x]) R' l' vr':=
 ⟨hk.cell (p:=⟨w.heap.size,0,none⟩) ⟨lt_of_cell h.bm,by simp,by simp;omega⟩ h.bm,hk.cell (p:=⟨w.heap.size+1+1,0,none⟩) ⟨lt_of_cell h.bq,by simp,by simp⟩ h.bq,br,row,len,limbs,rest,lt,
  by rw[List.length_append];exact val,h.below.trans (rd_below hk h.below.size)⟩
theorem DvL.order{n:Nat}{pre:List (Fin n)}{x:Fin n}(h:pre++[x]=revF n (pre.length+1))(hk:pre.length<n):pre=revF n pre.length∧n-1-pre.length=x.1:=by
 rw[revF_succ hk rfl]at h;obtain⟨h1,h2⟩:=List.append_inj' h rfl;exact⟨h1,(congrArg Fin.val (List.singleton_inj.1 h2)).symm⟩
theorem div_any(Z Z':Zone)(v v':Value)(n m:Nat)(w:World)(hn:NumS Z w v n)(hm:NumS Z' w v' m)(h1:(digs n).length ≤100000)(h2:(digs m).length ≤100000)(hm0:0<m):
  Calls Tryz.prog 101 #[v,v'] w λe w'=>∃u u',e= .returned (.tuple #[u,u'])∧NumS (λb=>w.heap.size≤b) w' u (n / m)∧NumS (λb=>w.heap.size≤b) w' u' (n%m)∧Below w.heap.size w w':=by
 obtain⟨A,cap,rfl,hl1⟩:=Lims.part hn;obtain⟨A',cap',rfl,hl2⟩:=Lims.part hm;have HN:=hid hn;have HM:=hid hm;clear hn hm;obtain⟨la,hla⟩:∃la,(digs n).length =la:=⟨_,rfl⟩;obtain⟨lb,hlb⟩:∃lb,(digs m).length =lb:=⟨_,rfl⟩;rw[hla]at HN hl1 h1;rw[hlb]at HM hl2 h2;rw[hla,hlb];have HL:=hid (And.intro hla hlb);have hms:=run_makeU la (by omega);obtain⟨cz,hcz⟩:∃cz,((List.replicate la 0).map lim).toArray =cz:=⟨_,rfl⟩;rw[hcz]at hms;have HCZ:=hid hcz;clear hla hlb hcz;refine(callsIn_wide (n:=6)).1 ?_;refine callsIn_of_wp_marks Tryz.func101 rfl trivial ?_ rfl;simp only[Tryz.ntmps101,List.size_toArray,List.length_cons,List.length_nil,Nat.reduceAdd,Nat.reduceSub,Array.replicate_succ,Array.replicate_zero,List.push_toArray,List.append_toArray,List.nil_append,List.cons_append]
 gi_wp2_with (refine⟨trivial,?_⟩;gi_at_call 126;refine(back_in Fence.wide _ trivial rfl _ _ _ _).mono ?_;rintro e w' ⟨rfl,rfl⟩)
 clear hms;have bM:=Blk.new w 157 #[.slice A' lb cap'];have bG:=Blk.new (w.alloc (.cells #[.slice A' lb cap'] 157)) 184 cz;rw[World.size_alloc]at bG;have bQ:=Blk.new ((w.alloc (.cells #[.slice A' lb cap'] 157)).alloc (.cells cz 184)) 157 #[.slice (some ⟨w.heap.size+1,0,none⟩) la la];rw[World.size_alloc,World.size_alloc]at bQ;have bR:=Blk.new (((w.alloc (.cells #[.slice A' lb cap'] 157)).alloc (.cells cz 184)).alloc (.cells #[.slice (some ⟨w.heap.size+1,0,none⟩) la la] 157)) 157 #[.slice none 0 0];rw[World.size_alloc,World.size_alloc,World.size_alloc]at bR;have bN:=Blk.new ((((w.alloc (.cells #[.slice A' lb cap'] 157)).alloc (.cells cz 184)).alloc (.cells #[.slice (some ⟨w.heap.size+1,0,none⟩) la la] 157)).alloc (.cells #[.slice none 0 0] 157)) 157 #[.slice A la cap];rw[World.size_alloc,World.size_alloc,World.size_alloc,World.size_alloc]at bN
 have hB0:Below w.heap.size w (((((w.alloc (.cells #[.slice A' lb cap'] 157)).alloc (.cells cz 184)).alloc (.cells #[.slice (some ⟨w.heap.size+1,0,none⟩) la la] 157)).alloc (.cells #[.slice none 0 0] 157)).alloc (.cells #[.slice A la cap] 157)):=
  (((((Below.refl _ w).alloc (Nat.le_refl _) _).alloc (by simp) _).alloc (by simp;omega) _).alloc (by simp;omega) _).alloc (by simp;omega) _
 have h0:DvL w (((((w.alloc (.cells #[.slice A' lb cap'] 157)).alloc (.cells cz 184)).alloc (.cells #[.slice (some ⟨w.heap.size+1,0,none⟩) la la] 157)).alloc (.cells #[.slice none 0 0] 157)).alloc (.cells #[.slice A la cap] 157)) w.heap.size (w.heap.size+1+1) (w.heap.size+1) (w.heap.size+1+1+1) (.slice A' lb cap') m la (digs n) [] 0 (List.replicate la 0) (.slice none 0 0):=
  ⟨((((bM.alloc _).alloc _).alloc _).alloc _).cell 0,((bQ.alloc _).alloc _).cell 0,bR.alloc _,by rw[HCZ.out];exact((bG.alloc _).alloc _).alloc _,List.length_replicate ..,limbs_zeros _,NumS.of (Lims.nil _ _) digs_zero.symm,hm0,λ_=>by have:=DivI.start (digs n) m;rwa[HL.out.1]at this,hB0⟩
 have hN0:=(bN.cell 0);have hsz:(((((w.alloc (.cells #[.slice A' lb cap'] 157)).alloc (.cells cz 184)).alloc (.cells #[.slice (some ⟨w.heap.size+1,0,none⟩) la la] 157)).alloc (.cells #[.slice none 0 0] 157)).alloc (.cells #[.slice A la cap] 157)).heap.size =w.heap.size+5:=by simp
 clear bM bG bQ bR bN HCZ;generalize (((((w.alloc (.cells #[.slice A' lb cap'] 157)).alloc (.cells cz 184)).alloc (.cells #[.slice (some ⟨w.heap.size+1,0,none⟩) la la] 157)).alloc (.cells #[.slice none 0 0] 157)).alloc (.cells #[.slice A la cap] 157))=W0 at*
 refine wpIn_rangeFunc_ownG rfl (by omega) (gf:=162) (lb:=#[.pointer (some ⟨w.heap.size+1+1+1+1,0,none⟩)]) rfl trivial (enters_of Tryz.func162 (by kernel_rfl) rfl)
  (back_stops Fence.wide _ trivial rfl (by omega) (λb=>b<w.heap.size+5∧b≠w.heap.size+1∧b≠w.heap.size+1+1+1) (λb=>Z b∧b<w.heap.size) (w.heap.size+1+1+1+1) A cap (digs n) (by rw[HL.out.1];omega) W0 (by omega) (by omega) (by rw[HL.out.1];exact hN0) (by rw[HL.out.1];exact(Lims.live HN.out).keep (.of_below hB0)) (λb hb=>⟨by have:=hb.2;omega,by have:=hb.2;omega,by have:=hb.2;omega⟩))
  (λh k=>Keeps.trans h k) (keepsZ_b (by intro b hb;have:=hb.1;omega)) (Below.refl _ _) (λ_=>rfl)
  (λpre W=>∃R l vr,DvL w W w.heap.size (w.heap.size+1+1) (w.heap.size+1) (w.heap.size+1+1+1) (.slice A' lb cap') m la (digs n) pre R l vr)
  (λ_ _ _=>False)
  (λs W W' row hs hg hr=>by
   obtain⟨R,l,vr,h⟩:=hs;have hr':∀r,row=some r->∃o:Obj,W.heap[r]? =some o∧o.isCells=false:=λr e=>(hr r e).2
   exact⟨R,l,vr,cell_kept h.bm hg hr',cell_kept h.bq hg hr',blk_kept hg hr' h.br,blk_kept hg hr' h.row,h.len,h.limbs,lims_kept hg hr' h.rest,h.lt,h.val,h.below.grown hg (by have:=h.below.size;exact this) (λk e=>by have:=(hr k e).1;omega)⟩)
  (λ_ _ _ _ _ hs _ _=>hs)
  ⟨0,_,_,h0⟩
  (λx=>{tmps:=#[.slice A la cap,.slice A' lb cap',undef,.pointer (some ⟨w.heap.size,0,none⟩),.slice none 0 0,.slice none 0 0,.pointer (some ⟨w.heap.size+1+1,0,none⟩),.pointer (some ⟨w.heap.size+1+1+1,0,none⟩),.int .i64 ((x.1:Nat):Int),.int .u64 (((digs n)[x.1]:Nat):Int),undef,.slice A la cap,.int .i64 la,.slice (some ⟨w.heap.size+1,0,none⟩) la la,.slice A la cap,.func (.func 162) #[] #[.pointer (some ⟨w.heap.size+1+1+1+1,0,none⟩)],.int .i64 ((x.1:Nat):Int),.int .u64 (((digs n)[x.1]:Nat):Int),undef,undef,undef,undef,undef,undef,undef,undef,undef,undef,undef,undef,undef,undef,undef,undef,undef,undef,undef,undef,undef,undef,undef,undef,undef,undef],defers:=[]}) ?assign ?body ?done ?stop
 case assign=>
  intro l x W K hK;unfold encL
  gi_wp2
  exact hK
 case body=>
  rintro l pre x W ⟨R,ls,vr,HD⟩ hpl;have hx:=(digs_canon n).1.limbs.get x.2
  have hRl:(digs R).length ≤100000:=by
   rcases Nat.lt_or_ge (digs m).length (digs R).length with h|h
   ·have:=lv_longer (digs_canon m).1.limbs (digs_canon R).1 h;rw[(digs_canon m).2,(digs_canon R).2]at this;have:=HD.lt;omega
   ·have:=HL.out.2;omega
  obtain⟨Ar,rc,rfl,-⟩:=Lims.part HD.rest;have HDV:=hid HD;have cM:=HD.bm;have cR:=HD.br.cell 0;have lR:=HD.br.lt;have hLx:Limbs ((digs n)[x.1]::digs R):=(digs_canon R).1.limbs.cons hx;have hvx:lv ((digs n)[x.1]::digs R)=(digs n)[x.1]+1000000000*R:=by show _+1000000000*lv (digs R)=_;rw[(digs_canon R).2]
  have hmx:lim (digs n)[x.1]::(digs R).map lim=((digs n)[x.1]::digs R).map lim:=rfl;obtain⟨rl,hrl⟩:∃rl,(digs R).length =rl:=⟨_,rfl⟩;have hlx:((digs n)[x.1]::digs R).length =rl+1:=by rw[<-hrl];rfl
  have HST:=hid (λ(hj:(digs n).length -1-pre.length=x.1)(h:DivI (digs n) m ls R pre.length)=>h.step (by rw[HD.len,HL.out.1]) hpl hj hm0 HD.lt (digs_canon n).1.limbs x.2);have HSK:=hid (λ(hj:(digs n).length -1-pre.length=x.1)(h:DivI (digs n) m ls R pre.length)=>h.skip (by rw[HD.len,HL.out.1]) hpl hj hm0 HD.lt (digs_canon n).1.limbs x.2);have HROW:=hid (λ(o:Obj)=>row_map HD.rest ((Keeps.refl (λb=>w.heap.size+1+1+1+1≤b) W).alloc o));rw[hrl]at HDV cR;generalize (digs n)[x.1]=xv at*;obtain⟨lx,hlxx⟩:∃lx,xv::digs R=lx:=⟨_,rfl⟩;rw[hlxx]at hLx hvx hmx hlx;have HLX:=hid (And.intro hLx (And.intro hvx (And.intro hmx hlx)));have hWs:=HD.below.size;clear hLx hvx hmx hlx hlxx HD
  have HTR:=hid (λ(A:Option Addr)(c:Nat)(V:World)(h:Lims (λb=>W.heap.size≤b) V (.slice A (rl+1) c) lx)=>(show Calls Tryz.prog 125 #[.slice A (rl+1) c] V (λe w'=>e= .returned (.slice A (trimL lx (rl+1)) c)∧V=w') from by
   have:=trim_any A c lx _ V (by rw[HLX.out.2.2.2];exact h)
   rwa[HLX.out.2.2.2]at this))
  gi_wp2_with (first
   |(gi_at_builtin;refine wpListIn_appendR rfl (.tmp 19) (.tmp 20) _ rfl Tryz.underlying157 Tryz.eU64 rfl (own_blk1 W _ _) rfl (by rw[List.length_map,hrl,Nat.mul_one]) (HROW.out _) (by intro u hu;obtain⟨y,-,rfl⟩:=List.mem_map.1 hu;rfl) (by unfold maxLen;omega) (by omega) (by simp) ?_;intro v5 w5 hown5 hg5 hat5;have HL5:=hid (Lims.of_own (l:=lx) (by rw[<-HLX.out.2.2.1];exact hown5) HLX.out.1 (by rw[HLX.out.2.2.2];omega));have hb5:=below_own ((Below.refl _ W).alloc (Nat.le_refl _) _) (own_blk1 W _ _) hg5 (by simp) (Nat.le_refl _);have bR5:=HDV.out.br.below hb5 lR;have cR5:=bR5.cell 0;have fR5:=bR5.frozen 0;have lR5:=bR5.lt;have cM5:=brd hb5 cM (lt_of_cell cM);obtain⟨A5,c5,hv5,-⟩:=Lims.part HL5.out;rw[HLX.out.2.2.2]at hv5;subst hv5;have HB5:=hid hb5;clear hown5 hg5 hat5 hb5 bR5)
   |(refine⟨trivial,?_⟩;gi_at_call 125;refine(CallsIn.inRound l (callsIn_wide.2 (HTR.out A5 c5 _ HL5.out))).mono ?_;rintro e w6 ⟨rfl,rfl⟩))
  have hk6:Keeps (RdZ w W) W (w5.setCell ⟨w.heap.size+1+1+1,0,none⟩ (.slice A5 (trimL lx (rl+1)) c5)):=(Keeps.of_below_lt HB5.out (λb _ hz=>hz.1)).setCell (λ_ hz=>hz.2.2 rfl) _
  have hU6:NumS (λb=>W.heap.size≤b) (w5.setCell ⟨w.heap.size+1+1+1,0,none⟩ (.slice A5 (trimL lx (rl+1)) c5)) (.slice A5 (trimL lx (rl+1)) c5) (xv+1000000000*R):=by
   have h1:=HL5.out.take (k:=trimL lx (rl+1)) (by rw[HLX.out.2.2.2];exact trimL_le _ _);have h2:=trimL_digs HLX.out.1 HLX.out.2.1;rw[HLX.out.2.2.2]at h2;exact NumS.of (h1.keep ((Keeps.refl _ _).setCell (λ_ hz=>by have hz:W.heap.size≤w.heap.size+1+1+1:=hz;omega) _)) h2
  have bR6:Blk (w5.setCell ⟨w.heap.size+1+1+1,0,none⟩ (.slice A5 (trimL lx (rl+1)) c5)) (w.heap.size+1+1+1) 157 #[.slice A5 (trimL lx (rl+1)) c5]:=(HDV.out.br.below HB5.out lR).set_ 0 _;have hG6:Blk (w5.setCell ⟨w.heap.size+1+1+1,0,none⟩ (.slice A5 (trimL lx (rl+1)) c5)) (w.heap.size+1) 184 (ls.map lim).toArray :=(HDV.out.row.below HB5.out HDV.out.row.lt).far (by simp) _;clear cR5 fR5 lR5 cM5 HL5 HB5 HTR HROW;generalize w5.setCell ⟨w.heap.size+1+1+1,0,none⟩ (.slice A5 (trimL lx (rl+1)) c5)=w6 at*;generalize trimL lx (rl+1)=tl at*
  have hR1l:(digs (xv+1000000000*R)).length ≤200000:=by
   have h:=digs_length_le (n:=xv+1000000000*R) (k:=rl+1) (by rw[<-HLX.out.2.1,<-HLX.out.2.2.2];exact lv_lt HLX.out.1);omega
  obtain⟨R1,hR1⟩:∃R1,xv+1000000000*R=R1:=⟨_,rfl⟩;rw[hR1]at hU6 hR1l HST HSK;have cM6:=hk6.cell (p:=⟨w.heap.size,0,none⟩) ⟨lt_of_cell cM,by simp,by simp;omega⟩ cM;have hM6:=(Lims.live HM.out).keep (.of_below (HDV.out.below.trans (rd_below hk6 hWs)));have HCM:=hid (ncompare_any _ _ _ _ R1 m w6 hU6 hM6 (by omega) (by rw[HL.out.2];omega));have HS6:=hid (And.intro hk6 (And.intro hU6 (And.intro bR6 (And.intro hG6 hM6))));have hs6:=hk6.size;clear cM cR hk6 hU6 hG6 hM6 HLX;refine⟨trivial,?_⟩;refine(CallsIn.inRound l (callsIn_wide.2 HCM.out)).mono ?_;rintro e w7 ⟨rfl,hb7⟩;have hk7:Keeps (RdZ w W) W w7:=HS6.out.1.trans (.of_below hb7);have hU7:NumS (λb=>W.heap.size≤b∧b<w6.heap.size) w7 (.slice A5 tl c5) R1:=(Lims.live HS6.out.2.1).keep (.of_below hb7);have bR7:=HS6.out.2.2.1.below hb7 HS6.out.2.2.1.lt;have hG7:=HS6.out.2.2.2.1.below hb7 HS6.out.2.2.2.1.lt;have hM7:=(Lims.live HS6.out.2.2.2.2).keep (.of_below hb7);clear hb7 HCM bR6 cM6;by_cases hlt:R1<m
  ·rw[sgn_lt (show((R1:Nat):Int)<(m:Int) by omega)];have HF:=hid (And.intro hk7 (And.intro hU7 (And.intro bR7 hG7)));clear hk7 hU7 bR7 hG7 hM7
   gi_wp2
   refine⟨rd_from HF.out.1 (by omega),rd_keeps HF.out.1,R1,ls,_,HDV.out.next HF.out.1 HF.out.2.2.1 HF.out.2.2.2 HDV.out.len HDV.out.limbs (HF.out.2.1.mono λb hb=>by have:=hb.1;omega) hlt (λh=> ?_)⟩;obtain⟨q1,q2⟩:=DvL.order h hpl;exact HSK.out q2 (HDV.out.val q1) hlt
  ·have hs0:decide (sgnZ (R1:Int) (m:Int)<0)=false:=by
    refine decide_eq_false ?_;rcases Nat.lt_or_ge m R1 with h|h
    ·rw[sgn_gt (by omega)];decide
    ·rw[show R1=m by omega,sgn_eq];decide
   generalize sgnZ (R1:Int) (m:Int)=s at*;have HF:=hid (And.intro hk7 (And.intro hU7 (And.intro bR7 (And.intro hG7 hM7))));have hbM:=hk7.cell (p:=⟨w.heap.size,0,none⟩) ⟨lt_of_cell HDV.out.bm,by simp,by simp;omega⟩ HDV.out.bm;have cR7:=bR7.cell 0
   have HSR:=hid (show Calls Tryz.prog 128 #[.int .i64 999999999,.func (.func 129) #[] #[.pointer (some ⟨w.heap.size,0,none⟩),.pointer (some ⟨w.heap.size+1+1+1,0,none⟩)]] w7 (λe w'=>∃d:Nat,e= .returned (.int .i64 (d:Int))∧d≤999999999∧(∀t,t<d->decide (R1<m*(t+1))=false)∧(d<999999999->decide (R1<m*(d+1))=true)∧Below w7.heap.size w7 w') from
    search_any 129 _ 999999999 (λk=>decide (R1<m*(k+1))) w7 (enters_of Tryz.func129 (by kernel_rfl) rfl) (by omega)
     (λi hi V hV=>divSel_any _ _ w.heap.size (w.heap.size+1+1+1) _ _ m R1 i V (brd hV hbM (lt_of_cell hbM)) (brd hV cR7 (lt_of_cell cR7)) (hM7.keep (.of_below hV)) (hU7.keep (.of_below hV)) (by rw[HL.out.2];omega) (by omega) hi (by
      (have h1:m<1000000000^lb:=by have:=lv_lt (digs_canon m).1.limbs;rw[(digs_canon m).2,HL.out.2]at this;exact this);have h2:m*(i+1)<1000000000^lb*1000000000:=Nat.mul_lt_mul'' h1 (by omega);have:=digs_length_le (n:=m*(i+1)) (k:=lb+1) (by rw[Nat.pow_succ];exact h2)
      omega))
     (λa b hab _ h=>by
      have h:=of_decide_eq_true h;have:m*(a+1)≤m*(b+1):=Nat.mul_le_mul_left _ (by omega)
      exact decide_eq_true (by omega)))
   clear hk7 hU7 bR7 hG7 hM7 hbM cR7
   gi_wp2
   refine⟨trivial,?_⟩;refine(CallsIn.inRound l (callsIn_wide.2 HSR.out)).mono ?_;rintro e w8 ⟨d,rfl,hd,hd1,hd2,hb8⟩;(have hq:R1 / m<1000000000:=by have:=(div_step (V:=R) (q:=0) (x:=xv) hm0 (by simp) HDV.out.lt hx).2.1;rwa[hR1]at this);have hdq:d=R1 / m:=div_find hm0 (λk hk=>of_decide_eq_false (hd1 k hk)) (λh=>of_decide_eq_true (hd2 h)) hd hq;(have hdp:0<d:=by rw[hdq];exact Nat.div_pos (by omega) hm0);have hk8:Keeps (RdZ w W) W w8:=HF.out.1.trans (.of_below hb8);have hU8:=(Lims.live HF.out.2.1).keep (.of_below hb8);have bR8:=HF.out.2.2.1.below hb8 HF.out.2.2.1.lt;have hG8:=HF.out.2.2.2.1.below hb8 HF.out.2.2.2.1.lt;have hM8:=(Lims.live HF.out.2.2.2.2).keep (.of_below hb8);have cQ8:=hk8.cell (p:=⟨w.heap.size+1+1,0,none⟩) ⟨lt_of_cell HDV.out.bq,by simp,by simp⟩ HDV.out.bq;have cM8:=hk8.cell (p:=⟨w.heap.size,0,none⟩) ⟨lt_of_cell HDV.out.bm,by simp,by simp;omega⟩ HDV.out.bm;(have hjl:x.1<ls.length:=by rw[HDV.out.len,<-HL.out.1];exact x.2);(have o0:w8.cell? ⟨w.heap.size+1,x.1,none⟩=some (.int .u64 ((ls[x.1]:Nat):Int)):=by rw[hG8.cell x.1,List.getElem?_toArray,List.getElem?_map,List.getElem?_eq_getElem hjl];rfl);have of:=hG8.frozen x.1;have ol:=hG8.lt;(have hxl:((x.1:Nat):Int)<(la:Int):=by have:=HL.out.1;have:=x.2;omega);(have hx0:(0:Int)≤((x.1:Nat):Int):=by omega);(have hwd:IntKind.u64.wrap (d:Int)=(d:Int):=by rw[IntKind.wrap_u64];omega);have h9:hM8=hM8:=rfl;have hk9:Keeps (RdZ w W) W (w8.setCell ⟨w.heap.size+1,x.1,none⟩ (.int .u64 (d:Int))):=hk8.setCell (λ_ hz=>hz.2.1 rfl) _;have hU9:=hU8.keep ((Keeps.refl (λb=>(W.heap.size≤b∧b<w6.heap.size)∧b<w7.heap.size) w8).setCell (p:=⟨w.heap.size+1,x.1,none⟩) (λ_ hz=>by have hz:=hz.1.1;simp only at hz;omega) (.int .u64 (d:Int)));have bR9:=bR8.far (p:=⟨w.heap.size+1,x.1,none⟩) (by show w.heap.size+1+1+1≠w.heap.size+1;omega) (.int .u64 (d:Int));(have hG9:Blk (w8.setCell ⟨w.heap.size+1,x.1,none⟩ (.int .u64 (d:Int))) (w.heap.size+1) 184 ((ls.set x.1 d).map lim).toArray :=by rw[<-set_lims];exact hG8.set_ x.1 _);have hM9:=(Lims.live HM.out).keep (.of_below (HDV.out.below.trans (rd_below hk9 hWs)));have cM9:=hk9.cell (p:=⟨w.heap.size,0,none⟩) ⟨lt_of_cell HDV.out.bm,by simp,by simp;omega⟩ HDV.out.bm;have HF9:=hid (And.intro hk9 (And.intro hU9 (And.intro bR9 (And.intro hG9 (And.intro hM9 cM9)))));generalize ls[x.1]=old at*;have HDQ:=hid hdq;clear hdq hq;clear hd1 hd2 hk8 hU8 bR8 hG8 hM8 cM8 h9 hk9 hU9 bR9 hG9 hM9 cM9 HF HSR hb8
   gi_wp2
   generalize w8.setCell ⟨w.heap.size+1,x.1,none⟩ (.int .u64 (d:Int))=w9 at*;clear o0 of ol cQ8;have cR9:=HF9.out.2.2.1.cell 0;have cM9:=HF9.out.2.2.2.2.2;have lR9:=lt_of_cell cR9;have lM9:=lt_of_cell cM9;have hs9:=HF9.out.1.size;refine wpIn_region_S 7 (λV=>V.cell? ⟨w.heap.size+1+1+1,0,none⟩=some (.slice A5 tl c5)∧V.cell? ⟨w.heap.size,0,none⟩=some (.slice A' lb cap')) (by kernel_rfl) (by kernel_rfl) ?_;have hB0':Below w9.heap.size w9 w9.drew:=(Below.refl _ _).drew;generalize w9.drew=x0 at*;have hS:(λV:World=>V.cell? ⟨w.heap.size+1+1+1,0,none⟩=some (.slice A5 tl c5)∧V.cell? ⟨w.heap.size,0,none⟩=some (.slice A' lb cap')) x0:=⟨brd hB0' cR9 lR9,brd hB0' cM9 lM9⟩
   (refine tkS 0 ?_ hS ?_ ?_;rotate_left;intro w hSw;obtain⟨h1,h2⟩:=hSw;go_simp;(try with_reducible rfl);simp only[nr])
   (refine tkS 1 ?_ hS ?_ ?_;rotate_left;intro w hSw;obtain⟨h1,h2⟩:=hSw;go_simp;(try with_reducible rfl);simp only[nr])
   (refine tkZ 2 ?_ hS ?_ ?_;rotate_left;intro w;go_simp;(try with_reducible rfl);simp only[nr])
   (refine tkZ 3 ?_ hS ?_ ?_;rotate_left;intro w;go_simp;(try with_reducible rfl);simp only[nr])
   clear hS;refine wS1 4 (λK hK=> ?_);(go_wp2_with fail);have hB1:Below w9.heap.size w9 (x0.alloc (.cells #[.int .u64 (d:Int)] 184)):=hB0'.alloc hB0'.size _;refine hK _ _ (Or.inr ⟨brd hB1 cR9 lR9,brd hB1 cM9 lM9⟩) ?_;clear hK K
   (try simp only[nr])
   have HC:=hid (show NumS (λb=>b=x0.heap.size) (x0.alloc (.cells #[.int .u64 (d:Int)] 184)) (.slice (some ⟨x0.heap.size,0,none⟩) 1 1) d from one_limb (x:=d) x0 _ hdp (by omega));(have hlc:(digs d).length ≤1000000:=by rw[digs_one hdp (by omega)];simp);generalize x0.alloc (.cells #[.int .u64 (d:Int)] 184)=x1 at*;have HMU:=hid (mul_any _ (λb=>b=x0.heap.size) _ _ m d x1 (HF9.out.2.2.2.2.1.keep (.of_below hB1)) HC.out (by rw[HL.out.2];omega) hlc);clear hlc;refine wS1 5 (λK hK=> ?_);(go_wp2_with fail);refine HMU.out.mono ?_;rintro e x2 ⟨u,rfl,hu,hb⟩;have hB2:Below w9.heap.size w9 x2:=hB1.trans (hb.mono hB1.size);refine hK _ _ (Or.inr ⟨brd hB2 cR9 lR9,brd hB2 cM9 lM9⟩) ?_;clear hK K hb
   (try simp only[nr])
   have hmd:m*d≤R1:=by rw[HDQ.out];exact Nat.mul_div_le _ _
   have hmdl:(digs (m*d)).length ≤1000000:=by
    have:=digs_length_le (n:=m*d) (k:=(digs R1).length) (by have:=lv_lt (digs_canon R1).1.limbs;rw[(digs_canon R1).2]at this;omega);omega
   have HSU:=hid (sub_any _ _ _ u R1 (m*d) x2 (HF9.out.2.1.keep (.of_below hB2)) hu (by omega) hmdl hmd);clear hu HMU HC;refine wS1 6 (λK hK=> ?_);(go_wp2_with fail);refine HSU.out.mono ?_;rintro e x3 ⟨u',rfl,hu',hb⟩;obtain⟨Au,cu,rfl,-⟩:=Lims.part hu';have HU':=hid hu';clear hu';generalize (digs (R1-m*d)).length =lu at*;have hB3:Below w9.heap.size w9 x3:=hB2.trans (hb.mono hB2.size);refine hK _ _ (Or.inr ⟨brd hB3 cR9 lR9,brd hB3 cM9 lM9⟩) ?_;clear hK K hb HSU
   (try simp only[nr])
   have bR3:=HF9.out.2.2.1.below hB3 lR9;have c3:=bR3.at0;have f3:=bR3.frozen 0;have l3:=bR3.lt;refine wS1 7 (λK hK=> ?_);(go_wp2_with fail);refine hK _ _ (Or.inl rfl) ?_;clear hK K
   (try simp only[nr])
   refine wSd ?_ _;go_wp2;have hkx:Keeps (RdZ w W) W (x3.setCell ⟨w.heap.size+1+1+1,0,none⟩ (.slice Au lu cu)):=(HF9.out.1.trans (.of_below hB3)).setCell (λ_ hz=>hz.2.2 rfl) _;(have hRq:R1-m*d=R1%m:=by have:=Nat.div_add_mod R1 m;rw[<-HDQ.out]at this;omega);refine⟨⟨rd_from hkx (by omega),rd_keeps hkx,R1%m,ls.set x.1 d,_,HDV.out.next hkx (bR3.set_ 0 _) ((HF9.out.2.2.2.1.below hB3 HF9.out.2.2.2.1.lt).far (by simp) _) (by rw[List.length_set];exact HDV.out.len) (HDV.out.limbs.set _ (by omega)) ?_ (Nat.mod_lt _ hm0) (λh=> ?_)⟩,λh=>by cases h⟩
   ·rw[<-hRq];exact(HU'.out.mono λb hb=>by have hb:x2.heap.size≤b:=hb;have:=hB2.size;omega).keep ((Keeps.refl _ _).setCell (λ_ hz=>by have hz:w.heap.size+1+1+1+1≤w.heap.size+1+1+1:=hz;omega) _)
   ·obtain⟨q1,q2⟩:=DvL.order h hpl;have:=HST.out q2 (HDV.out.val q1);rw[HDQ.out];exact this
 case done=>
  rintro D ys W hD rfl ⟨R,ls,vr,HD⟩ hK;have hRL:=revF_length (Nat.le_refl (digs n).length);have hv:=HD.val (by rw[hRL]);rw[hRL]at hv;obtain⟨hv1,hv2⟩:=hv.done hm0 HD.lt;rw[(digs_canon n).2]at hv1 hv2;obtain⟨Ar,rc,rfl,-⟩:=Lims.part HD.rest
  have hTR:=trim_any (some ⟨w.heap.size+1,0,none⟩) la ls (λb=>w.heap.size≤b) W.drew (by
   have:=lims_blk (Z:=λb=>w.heap.size≤b) (w:=W.drew) (cap:=la) HD.row.drew (Nat.le_succ _) HD.limbs (by rw[HD.len];exact Nat.le_refl _) (by omega) (by rw[HD.len];omega)
   exact this)
  have hLS:=lims_blk (Z:=λb=>w.heap.size≤b) (w:=W) (cap:=la) HD.row (Nat.le_succ _) HD.limbs (by rw[HD.len];exact Nat.le_refl _) (by omega) (by rw[HD.len];omega);rw[HD.len]at hTR hLS;have hTD:=trimL_digs HD.limbs hv1;rw[HD.len]at hTD;have HT:=hid hTR;have HV:=hid (And.intro hLS (And.intro hTD (And.intro hv2 HD)));have cQ:=HD.bq;have cR:=HD.br.cell 0;generalize (digs R).length =rl at*;clear hRL hv hv1 hv2 hTR hLS hTD HD
  gi_wp2
  refine wpIn_region_W 4 (λV=>V.cell? ⟨w.heap.size+1+1,0,none⟩=some (.slice (some ⟨w.heap.size+1,0,none⟩) la la)∧V.cell? ⟨w.heap.size+1+1+1,0,none⟩=some (.slice Ar rl rc)) (by kernel_rfl) ?_;have hS:(λV:World=>V.cell? ⟨w.heap.size+1+1,0,none⟩=some (.slice (some ⟨w.heap.size+1,0,none⟩) la la)∧V.cell? ⟨w.heap.size+1+1+1,0,none⟩=some (.slice Ar rl rc)) W.drew:=⟨cQ,cR⟩
  (refine tkS 0 ?_ hS ?_ ?_;rotate_left;intro w hSw;obtain⟨h1,h2⟩:=hSw;go_simp;(try with_reducible rfl);simp only[nr])
  (refine tkS 2 ?_ hS ?_ ?_;rotate_left;intro w hSw;obtain⟨h1,h2⟩:=hSw;go_simp;(try with_reducible rfl);simp only[nr])
  refine wS1 1 (λK hK=> ?_);go_wp2_with fail
  refine HT.out.mono ?_;rintro e x2 ⟨rfl,rfl⟩;refine hK _ _ (Or.inr ⟨cQ,cR⟩) ?_;clear hK K
  (try simp only[nr])
  (refine tkZ 3 ?_ hS ?_ ?_;rotate_left;intro w;go_simp;(try with_reducible rfl);simp only[nr])
  refine wS1 4 (λK hK=> ?_);go_wp2_with fail
  refine hK _ _ (Or.inl rfl) ?_;clear hK K
  (try simp only[nr])
  refine wSd ?_ _;unfold onlyN;dsimp only
  gi_wp2
  have hK':W.drew.heap[D]? =some (.deferred (some [])):=hK;have hgr:=grownBy_putObj' W.drew D (.deferred none);have hrr:∀r,some D=some r->∃o:Obj,W.drew.heap[r]? =some o∧o.isCells=false:=λr e=>by cases e;exact⟨_,hK',rfl⟩
  refine⟨by simp,.inl ⟨_,_,rfl,run_takeDeferred hK',?_⟩⟩;refine⟨.tuple #[.slice (some ⟨w.heap.size+1,0,none⟩) (trimL ls la) la,.slice Ar rl rc],by simp[results,Tryz.f101,go_sem],_,_,rfl,?_,?_,?_⟩
  ·exact lims_kept hgr hrr (Lims.keep (NumS.of (HV.out.1.take (by rw[HV.out.2.2.2.len];exact trimL_le _ _)) HV.out.2.1) (Keeps.refl _ _).drew)
  ·rw[<-HV.out.2.2.1];exact lims_kept hgr hrr (Lims.keep (HV.out.2.2.2.rest.mono λb hb=>by omega) (Keeps.refl _ _).drew)
  ·exact HV.out.2.2.2.below.drew.trans (belowK_b (w:=w) (Nat.le_refl _) W.drew D _ _ (by have:=hB0.size;omega) hK' rfl rfl)
 case stop=>
  rintro D c pre W _ _ h _;exact h.elim
end
end Go.Proofs.YtimmfbnjndndlaaGreatDoor
