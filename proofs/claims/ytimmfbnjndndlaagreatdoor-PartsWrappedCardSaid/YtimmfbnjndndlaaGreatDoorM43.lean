/- Texts RB. -/
import Derived.Test.YtimmfbnjndndlaaGreatDoorM42
set_option linter.all false
namespace Go.Proofs.YtimmfbnjndndlaaGreatDoor
open Go.RowKit
set_option maxHeartbeats 8000000
set_option maxRecDepth 100000
section
open Go.Shelf
theorem resOk_fold{T:CompD->Rt × Int}:∀{L:List CompD}{x:Rt × Int},ResOk x->(∀c∈L,ResOk (T c)∧c.cnt.natAbs<10^13)->ResOk (foldT T L x)
 |[],_,h,_=>h
 |c::L,x,h,hc=>by
  unfold foldT;rw[List.foldl_cons];exact resOk_fold (L:=L) (plusR_res h (hc c (List.mem_cons_self ..)).1 (hc c (List.mem_cons_self ..)).2) λd hd=>hc d (List.mem_cons_of_mem _ hd)
def CntOk(l:List ProdD):Prop:=∀p∈l,∀c∈p.parts,1≤c.cnt∧c.cnt≤1000
theorem pcnt_lt{l:List ProdD}(h:CntOk l){p:ProdD}(hp:p∈l){c:CompD}(hc:c∈p.parts):c.cnt.natAbs<10^13:=by
 have h1:=h p hp c hc;have e13:(10:Nat)^13=10000000000000:=by decide
 omega
theorem resOk_tot{l:List ProdD}{of:ProdD->(Rt × Int) × Bool}(hc:CntOk l)(ho:∀p∈l,ResOk (of p).1):∀(n:Nat)(id:ByteArray),ResOk (totS l of n id)
 |0,_=>λ_=>rt0_ok
 |n+1,id=>by
  rw[totS_succ]
  cases hp:prodOf l id with
  |none=>exact λ_=>rt0_ok
  |some p=>
   obtain⟨h1,_⟩:=prodOf_some hp;simp only;split
   ·exact ho p h1
   ·exact resOk_fold (ho p h1) λc hcm=>⟨resOk_tot hc ho n c.prod,pcnt_lt hc h1 hcm⟩
def ResB(w:World)(R:Nat)(x:Rt × Int):Prop:=∃a b c,resV x= .agg #[.bool a,.string b,.string c,.int .i64 x.2]∧Blk w R 80 #[.bool a,.string b,.string c,.int .i64 x.2]
def KnownR(T:ByteArray->Rt × Int)(kv:List (ByteArray × Value)):Prop:=∀id v,kvGet kv id=some v->v=resV (T id)
theorem KnownR.set{T:ByteArray->Rt × Int}{kv:List (ByteArray × Value)}(h:KnownR T kv)(id:ByteArray):KnownR T (kvSet kv id (resV (T id))):=by
 intro x v hv;by_cases e:x=id
 ·subst e;rw[kvGet_set_same]at hv;injection hv with hv;exact hv.symm
 ·rw[kvGet_set_other e]at hv;exact h x v hv
structure TotC (Z:Zone) (w W:World) (B MM:Nat) (vd vl vr:Value) (l:List ProdD) (base:ByteArray) (day:Int) (kvp:List (ByteArray × Value)) (T:ByteArray->Rt × Int) (FN K G F V M:Nat) (kv:List (ByteArray × Value)):Prop where
 k:One W K (.map (some M))
 g:One W G (.pointer (some ⟨B,0,none⟩))
 f:One W F (.func (.func FN) #[] #[])
 v:One W V (.func (.func 63) #[] #[.pointer (some ⟨K,0,none⟩),.pointer (some ⟨G,0,none⟩),.pointer (some ⟨F,0,none⟩),.pointer (some ⟨V,0,none⟩)])
 gd:GdsR Z w W B MM vd vl vr l base day kvp
 m:MapIs encS W M kv
 kn:KnownR T kv
 ne:K≠M∧G≠M∧F≠M∧V≠M∧B≠M∧MM≠M
 lo:w.heap.size≤M
section
variable {Z:Zone} {w W W':World} {B MM:Nat} {vd vl vr:Value} {l:List ProdD} {base:ByteArray} {day:Int} {kvp:List (ByteArray × Value)} {T:ByteArray->Rt × Int} {FN K G F V M:Nat} {kv kv':List (ByteArray × Value)}
theorem TotC.keep(h:TotC Z w W B MM vd vl vr l base day kvp T FN K G F V M kv)(hk:Keeps (λc=>c≠M) W W')(hm:MapIs encS W' M kv')(hn:KnownR T kv'):TotC Z w W' B MM vd vl vr l base day kvp T FN K G F V M kv':=
 ⟨h.k.keep hk h.ne.1,h.g.keep hk h.ne.2.1,h.f.keep hk h.ne.2.2.1,h.v.keep hk h.ne.2.2.2.1,
  ⟨h.gd.b.keep hk h.ne.2.2.2.2.1,h.gd.m.of_block (hk.block MM h.gd.m.lt h.ne.2.2.2.2.2),h.gd.lo,h.gd.lt,below_keeps_ne h.gd.be hk h.lo h.gd.be.size⟩,hm,hn,h.ne,h.lo⟩
theorem TotC.below(h:TotC Z w W B MM vd vl vr l base day kvp T FN K G F V M kv)(hb:Below W.heap.size W W'):TotC Z w W' B MM vd vl vr l base day kvp T FN K G F V M kv:=
 h.keep (Keeps.of_below hb) (h.m.of_block (hb.block M h.m.lt)) h.kn
end
structure TotF (Z:Zone) (w W U:World) (B MM:Nat) (vd vl vr:Value) (l:List ProdD) (base:ByteArray) (day:Int) (kvp:List (ByteArray × Value)) (T:ByteArray->Rt × Int) (FN K G F V M XB:Nat) (x:Rt × Int):Prop where
 c:∃kv,TotC Z w U B MM vd vl vr l base day kvp T FN K G F V M kv
 kp:Keeps (λc=>c≠M) W U
 r:Blk U W.heap.size 80 #[.bool false,.string ⟨#[]⟩,.string ⟨#[]⟩,.int .i64 0]
 x:ResB U XB x
 hm:M<W.heap.size
 hx:W.heap.size<XB
 lo:K<W.heap.size∧G<W.heap.size∧F<W.heap.size∧V<W.heap.size∧B<W.heap.size∧MM<W.heap.size
section
variable {Z:Zone} {w W U U':World} {B MM:Nat} {vd vl vr:Value} {l:List ProdD} {base:ByteArray} {day:Int} {kvp:List (ByteArray × Value)} {T:ByteArray->Rt × Int} {FN K G F V M XB:Nat} {x:Rt × Int}
theorem TotF.keep(h:TotF Z w W U B MM vd vl vr l base day kvp T FN K G F V M XB x)(hk:Keeps (λc=>c≠M) U U')(hc:∃kv,TotC Z w U' B MM vd vl vr l base day kvp T FN K G F V M kv):TotF Z w W U' B MM vd vl vr l base day kvp T FN K G F V M XB x:=by
 obtain⟨a,b,c,h1,h2⟩:=h.x;exact⟨hc,h.kp.trans hk,h.r.keep hk (by have:=h.hm;show W.heap.size≠M;omega),⟨a,b,c,h1,h2.keep hk (by have:=h.hm;have:=h.hx;show XB≠M;omega)⟩,h.hm,h.hx,h.lo⟩
theorem TotF.below(h:TotF Z w W U B MM vd vl vr l base day kvp T FN K G F V M XB x)(hb:Below U.heap.size U U'):TotF Z w W U' B MM vd vl vr l base day kvp T FN K G F V M XB x:=by
 obtain⟨kv,hc⟩:=h.c;exact h.keep (Keeps.of_below hb) ⟨kv,hc.below hb⟩
theorem TotF.put(h:TotF Z w W U B MM vd vl vr l base day kvp T FN K G F V M XB x)(y:Rt × Int){a:Bool}{b c:ByteArray}(hy:resV y= .agg #[.bool a,.string b,.string c,.int .i64 y.2]):
  TotF Z w W ((((U.setCell ⟨XB,0,none⟩ (.bool a)).setCell ⟨XB,1,none⟩ (.string b)).setCell ⟨XB,2,none⟩ (.string c)).setCell ⟨XB,3,none⟩ (.int .i64 y.2)) B MM vd vl vr l base day kvp T FN K G F V M XB y:=by
 have hX:W.heap.size<XB:=h.hx;obtain⟨a0,b0,c0,-,hx⟩:=h.x
 have one:∀{U:World}{i:Nat}{v:Value},(∃kv,TotC Z w U B MM vd vl vr l base day kvp T FN K G F V M kv)∧Keeps (λc=>c≠M) W U∧Blk U W.heap.size 80 #[.bool false,.string ⟨#[]⟩,.string ⟨#[]⟩,.int .i64 0]∧W.heap.size≤U.heap.size->
   (∃kv,TotC Z w (U.setCell ⟨XB,i,none⟩ v) B MM vd vl vr l base day kvp T FN K G F V M kv)∧Keeps (λc=>c≠M) W (U.setCell ⟨XB,i,none⟩ v)∧Blk (U.setCell ⟨XB,i,none⟩ v) W.heap.size 80 #[.bool false,.string ⟨#[]⟩,.string ⟨#[]⟩,.int .i64 0]∧W.heap.size≤(U.setCell ⟨XB,i,none⟩ v).heap.size :=by
  intro U i v ⟨⟨kv,hc⟩,hk,hr,hs⟩;have hm:=h.hm;have hb:Below XB U (U.setCell ⟨XB,i,none⟩ v):=(Below.refl XB U).setCell (p:=⟨XB,i,none⟩) (Nat.le_refl _) v;refine⟨⟨kv,?_⟩,hk.setCell (p:=⟨XB,i,none⟩) (λh0=>absurd h0 (by show ¬XB<W.heap.size;omega)) v,hr.far (p:=⟨XB,i,none⟩) (by show W.heap.size≠XB;omega) v,by simpa[World.setCell]using hs⟩;obtain⟨l1,l2,l3,l4,l5,l6⟩:=h.lo;have hlo:=hc.lo
  exact⟨hc.k.far (p:=⟨XB,i,none⟩) (by show K≠XB;omega) v,hc.g.far (p:=⟨XB,i,none⟩) (by show G≠XB;omega) v,hc.f.far (p:=⟨XB,i,none⟩) (by show F≠XB;omega) v,hc.v.far (p:=⟨XB,i,none⟩) (by show V≠XB;omega) v,
   ⟨hc.gd.b.far (p:=⟨XB,i,none⟩) (by show B≠XB;omega) v,hc.gd.m.of_block (hb.block MM (by omega)),hc.gd.lo,hc.gd.lt,hc.gd.be.setCell (p:=⟨XB,i,none⟩) (by show w.heap.size≤XB;omega) v⟩,
   hc.m.of_block (hb.block M (by omega)),hc.kn,hc.ne,hc.lo⟩
 obtain⟨hc',hk',hr',-⟩:=one (i:=3) (v:= .int .i64 y.2) (one (i:=2) (v:= .string c) (one (i:=1) (v:= .string b) (one (i:=0) (v:= .bool a) ⟨h.c,h.kp,h.r,h.kp.size⟩)));exact⟨hc',hk',hr',⟨a,b,c,hy,(((hx.set_ 0 _).set_ 1 _).set_ 2 _).set_ 3 _⟩,h.hm,h.hx,h.lo⟩
end
theorem TotF.out{Z:Zone}{w W U:World}{B MM:Nat}{vd vl vr:Value}{l:List ProdD}{base:ByteArray}{day:Int}{kvp:List (ByteArray × Value)}{T:ByteArray->Rt × Int}{FN K G F V M XB:Nat}{x:Rt × Int}(h:TotF Z w W U B MM vd vl vr l base day kvp T FN K G F V M XB x)(a:Bool)(b c:ByteArray)(e:Int):
  Blk ((((U.setCell ⟨W.heap.size,0,none⟩ (.bool a)).setCell ⟨W.heap.size,1,none⟩ (.string b)).setCell ⟨W.heap.size,2,none⟩ (.string c)).setCell ⟨W.heap.size,3,none⟩ (.int .i64 e)) W.heap.size 80 #[.bool a,.string b,.string c,.int .i64 e]∧
  Keeps (λc=>c≠M) W ((((U.setCell ⟨W.heap.size,0,none⟩ (.bool a)).setCell ⟨W.heap.size,1,none⟩ (.string b)).setCell ⟨W.heap.size,2,none⟩ (.string c)).setCell ⟨W.heap.size,3,none⟩ (.int .i64 e))∧
  ∃kv,TotC Z w ((((U.setCell ⟨W.heap.size,0,none⟩ (.bool a)).setCell ⟨W.heap.size,1,none⟩ (.string b)).setCell ⟨W.heap.size,2,none⟩ (.string c)).setCell ⟨W.heap.size,3,none⟩ (.int .i64 e)) B MM vd vl vr l base day kvp T FN K G F V M kv:=by
 have one:∀{U:World}{i:Nat}{v:Value},(∃kv,TotC Z w U B MM vd vl vr l base day kvp T FN K G F V M kv)∧Keeps (λc=>c≠M) W U->
   (∃kv,TotC Z w (U.setCell ⟨W.heap.size,i,none⟩ v) B MM vd vl vr l base day kvp T FN K G F V M kv)∧Keeps (λc=>c≠M) W (U.setCell ⟨W.heap.size,i,none⟩ v):=by
  intro U i v ⟨⟨kv,hc⟩,hk⟩;have hm:=h.hm;have hb:Below W.heap.size U (U.setCell ⟨W.heap.size,i,none⟩ v):=(Below.refl _ U).setCell (p:=⟨W.heap.size,i,none⟩) (Nat.le_refl _) v;refine⟨⟨kv,?_⟩,hk.setCell (p:=⟨W.heap.size,i,none⟩) (λh0=>absurd h0 (Nat.lt_irrefl _)) v⟩;obtain⟨l1,l2,l3,l4,l5,l6⟩:=h.lo;have hlo:=hc.lo
  exact⟨hc.k.far (p:=⟨W.heap.size,i,none⟩) (by show K≠W.heap.size;omega) v,hc.g.far (p:=⟨W.heap.size,i,none⟩) (by show G≠W.heap.size;omega) v,hc.f.far (p:=⟨W.heap.size,i,none⟩) (by show F≠W.heap.size;omega) v,hc.v.far (p:=⟨W.heap.size,i,none⟩) (by show V≠W.heap.size;omega) v,
   ⟨hc.gd.b.far (p:=⟨W.heap.size,i,none⟩) (by show B≠W.heap.size;omega) v,hc.gd.m.of_block (hb.block MM (by omega)),hc.gd.lo,hc.gd.lt,hc.gd.be.setCell (p:=⟨W.heap.size,i,none⟩) (by show w.heap.size≤W.heap.size;omega) v⟩,
   hc.m.of_block (hb.block M (by omega)),hc.kn,hc.ne,hc.lo⟩
 obtain⟨hc',hk'⟩:=one (i:=3) (v:= .int .i64 e) (one (i:=2) (v:= .string c) (one (i:=1) (v:= .string b) (one (i:=0) (v:= .bool a) ⟨h.c,h.kp⟩)));exact⟨((((h.r.set_ 0 _).set_ 1 _).set_ 2 _).set_ 3 _),hk',hc'⟩
theorem Tryz.egTotal1:∀args w,(callFunc 63 args).run Tryz.prog w= .ok (.enter 63 args) w:=enters_of Tryz.func63 (by kernel_rfl) rfl
theorem Tryz.zeroRes(w:World):(zeroValue 80).run Tryz.prog w= .ok (.agg #[.bool false,.string ⟨#[]⟩,.string ⟨#[]⟩,.int .i64 0]) w:=by kernel_rfl
theorem TotF.new{Z:Zone}{w W U:World}{B MM:Nat}{vd vl vr:Value}{l:List ProdD}{base:ByteArray}{day:Int}{kvp:List (ByteArray × Value)}{T:ByteArray->Rt × Int}{FN K G F V M:Nat}{kv:List (ByteArray × Value)}{x:Rt × Int}{a:Bool}{b c:ByteArray}
  (hW:TotC Z w W B MM vd vl vr l base day kvp T FN K G F V M kv)(hU:Below W.heap.size W U)(hr:Blk U W.heap.size 80 #[.bool false,.string ⟨#[]⟩,.string ⟨#[]⟩,.int .i64 0])(hx:resV x= .agg #[.bool a,.string b,.string c,.int .i64 x.2]):
  TotF Z w W (U.alloc (.cells #[.bool a,.string b,.string c,.int .i64 x.2] 80)) B MM vd vl vr l base day kvp T FN K G F V M U.heap.size x:=
 have hb:=hU.alloc hU.size (.cells #[.bool a,.string b,.string c,.int .i64 x.2] 80)
 ⟨⟨kv,hW.below hb⟩,Keeps.of_below hb,hr.alloc _,⟨a,b,c,hx,Blk.new U _ _⟩,hW.m.lt,hr.lt,hW.k.lt,hW.g.lt,hW.f.lt,hW.v.lt,hW.gd.b.lt,hW.gd.m.lt⟩
theorem total1_any(Z:Zone)(w:World)(B MM:Nat)(vd vl vr:Value)(l:List ProdD)(base:ByteArray)(day:Int)(kvp:List (ByteArray × Value))(hkv:ProdKv Z w kvp l)(hz:∀b,Z b->b<w.heap.size)(htab:TabB w.heap.size w)(hcnt:CntOk l)
  (o:List ByteArray)(ho:OrdOk l o)(of:ProdD->(Rt × Int) × Bool)(FN K G F V M:Nat)(eF:∀args w,(callFunc FN args).run Tryz.prog w= .ok (.enter FN args) w)(hres:∀p∈l,ResOk (of p).1)
  (HOF:∀U,GdsR Z w U B MM vd vl vr l base day kvp->∀p∈l,∀cs,ProdR Z w cs p->Calls Tryz.prog FN #[.pointer (some ⟨B,0,none⟩),.agg cs.toArray] U λe U'=>e= .returned (.tuple #[resV (of p).1,.bool (of p).2])∧Below U.heap.size U U'):
  ∀(n:Nat)(id:ByteArray)(W:World)(kv:List (ByteArray × Value)),id∈idsP l->rk o id<n->TotC Z w W B MM vd vl vr l base day kvp (totS l of (l.length+1)) FN K G F V M kv->
  Calls Tryz.prog 63 #[.string id,.pointer (some ⟨K,0,none⟩),.pointer (some ⟨G,0,none⟩),.pointer (some ⟨F,0,none⟩),.pointer (some ⟨V,0,none⟩)] W λe W'=>
   e= .returned (resV (totS l of (l.length+1) id))∧Keeps (λc=>c≠M) W W'∧∃kv',TotC Z w W' B MM vd vl vr l base day kvp (totS l of (l.length+1)) FN K G F V M kv':=by
 have HTQ:=hid (λ(id:ByteArray)(p:ProdD)(hp:prodOf l id=some p)=>totS_eq ho of hp);have HTR:=hid (resOk_tot hcnt hres (l.length+1));generalize totS l of (l.length+1)=T at*;have HRES:=hid hres;have HHOF:=hid HOF;have HKV:=hid hkv;have HTB:=hid htab;have HCN:=hid hcnt;have HZ:=hid hz;clear hres HOF hkv htab hcnt hz;intro n
 induction n with
 |zero=>intro id W kv _ h;omega
 |succ n ih=>
 intro id W kv hin hrk hC;have eg:=Tryz.egTotal1;have IH:=hid ih;clear ih;have k1:=hC.k.cell;have kl:=hC.k.lt
 have hlk:∀O,(Instr.lookup 116 (.map (some M)) (.string id) true).run Tryz.prog (W.alloc O)= .ok (.tuple #[(kvGet kv id).getD (.agg #[.bool false,.string ⟨#[]⟩,.string ⟨#[]⟩,.int .i64 0]),.bool (kvGet kv id).isSome]) (W.alloc O):=λO=>
  MapIs.look (w:=W.alloc O) (hC.m.of_block (Below.heap_alloc _ _ _ hC.m.lt)) (keyOk_string (P:=Tryz.prog) (k:=9) Tryz.underlying9) (t:=116) (e:=80) Tryz.underlying116 (Tryz.zeroRes _) id true
 cases hkg:kvGet kv id with
 |some v=>
  have hv:=hC.kn id v hkg;obtain⟨a,b,c,hx,-⟩:=resV_form (T id);rw[hx]at hv⊢;subst hv;rw[hkg]at hlk;simp only[Option.getD_some,Option.isSome_some]at hlk;have hl1:=hlk (.cells #[.bool false,.string ⟨#[]⟩,.string ⟨#[]⟩,.int .i64 0] 80);have hr:=Blk.new W 80 #[.bool false,.string ⟨#[]⟩,.string ⟨#[]⟩,.int .i64 0];have HC:=hid hC;clear hlk hC hkg;have hF:=TotF.new HC.out (below1 W (.cells #[.bool false,.string ⟨#[]⟩,.string ⟨#[]⟩,.int .i64 0] 80)) hr hx;generalize (T id).2=ee at*;have hx7:=Blk.new (W.alloc (.cells #[.bool false,.string ⟨#[]⟩,.string ⟨#[]⟩,.int .i64 0] 80)) 80 #[.bool a,.string b,.string c,.int .i64 ee];rw[World.size_alloc]at hx7;go_enter Tryz.func63,Tryz.ntmps63
  go_upto_region 2 with fail
  clear hr hl1 k1 kl;generalize (W.alloc (.cells #[.bool false,.string ⟨#[]⟩,.string ⟨#[]⟩,.int .i64 0] 80)).alloc (.cells #[.bool a,.string b,.string c,.int .i64 ee] 80)=U at*;have q0:=hx7.at0;have q1:=hx7.at1;have q2:=hx7.at2;have q3:=hx7.at3;have ql:=hx7.lt;have r0:=hF.r.at0;have r1:=hF.r.at1;have r2:=hF.r.at2;have r3:=hF.r.at3;have g0:=hF.r.frozen 0;have g1:=hF.r.frozen 1;have g2:=hF.r.frozen 2;have g3:=hF.r.frozen 3;have gl:=hF.r.lt;have H6:=hid hF;clear hF hx7;go_wp2_with fail
  have HO:=H6.out.out a b c ee;have r0:=HO.1.at0;have r1:=HO.1.at1;have r2:=HO.1.at2;have r3:=HO.1.at3;exact bodyPost_ret (v:= .agg #[.bool a,.string b,.string c,.int .i64 ee]) (by simp[results,Tryz.results63,go_sem,r0,r1,r2,r3]) rfl ⟨rfl,HO.2⟩
 |none=>
  rw[hkg]at hlk;simp only[Option.getD_none,Option.isSome_none]at hlk;have hl1:=hlk (.cells #[.bool false,.string ⟨#[]⟩,.string ⟨#[]⟩,.int .i64 0] 80);obtain⟨p,hp⟩:=prodOf_mem hin;obtain⟨hpl,hpid⟩:=prodOf_some hp;obtain⟨cs,hcs,hPR⟩:=(HKV.out id).2 p hp;have HT:=hid (HTQ.out id p hp);obtain⟨CA,ccap,PA,pcap,rfl,hcas,hcomp,hfit⟩:=hPR.form2;have HCALL:=hid (λU(hU:GdsR Z w U B MM vd vl vr l base day kvp)=>HHOF.out U hU p hpl _ hPR)
  have hlp:∀U,Below W.heap.size W U->(Instr.lookup 112 (.map (some MM)) (.string id) false).run Tryz.prog U= .ok (.agg #[.string p.id,.slice CA p.cas.length ccap,.string p.cur,.int .i64 p.units,.slice PA p.parts.length pcap]) U:=λU hU=>by
   have:=MapIs.look (w:=U) (hC.gd.m.of_block (hU.block MM hC.gd.m.lt)) (keyOk_string (P:=Tryz.prog) (k:=9) Tryz.underlying9) (t:=112) (e:=42) Tryz.underlying112 (Tryz.zeroProd _) id false;rw[hcs]at this;simpa[encS]using this
  have HLP:=hid hlp;have hr:=Blk.new W 80 #[.bool false,.string ⟨#[]⟩,.string ⟨#[]⟩,.int .i64 0];have hr1:=hr.alloc (.cells #[.bool false,.string ⟨#[]⟩,.string ⟨#[]⟩,.int .i64 0] 80);have hb1:=(below1 W (.cells #[.bool false,.string ⟨#[]⟩,.string ⟨#[]⟩,.int .i64 0] 80)).alloc (by simp) (.cells #[.bool false,.string ⟨#[]⟩,.string ⟨#[]⟩,.int .i64 0] 80);have HC:=hid hC;have HIN:=hid (And.intro hin (And.intro hrk hpid));have HPL:=hid hpl;obtain⟨PA',pcap',e',hpl',hps⟩:=hcomp.form;injection e' with e1 e2 e3;subst e1 e3;have HPS:=hid hps;clear hlk hC hkg hlp hr hin hrk hpid hp hcs hPR hcas hcomp hfit hps e2 hpl;go_enter Tryz.func63,Tryz.ntmps63
  go_upto_region 4 with fail
  clear hl1 k1 kl;generalize (W.alloc (.cells #[.bool false,.string ⟨#[]⟩,.string ⟨#[]⟩,.int .i64 0] 80)).alloc (.cells #[.bool false,.string ⟨#[]⟩,.string ⟨#[]⟩,.int .i64 0] 80)=U1 at*;have hC1:=HC.out.below hb1;have g1:=hC1.g.cell;have gl:=hC1.g.lt;have b1:=hC1.gd.b.at1;have b2:=hC1.gd.b.at2;have bl:=hC1.gd.b.lt;have hlp:=HLP.out U1 hb1;have hr2:=hr1.alloc (.cells #[.string p.id,.slice CA p.cas.length ccap,.string p.cur,.int .i64 p.units,.slice PA p.parts.length pcap] 42);have hb2:=hb1.alloc hb1.size (.cells #[.string p.id,.slice CA p.cas.length ccap,.string p.cur,.int .i64 p.units,.slice PA p.parts.length pcap] 42);have hP:=Blk.new U1 42 #[.string p.id,.slice CA p.cas.length ccap,.string p.cur,.int .i64 p.units,.slice PA p.parts.length pcap];clear hC1;go_upto_region 5 with fail
  obtain⟨PB,hPB⟩:∃PB,PB=U1.heap.size:=⟨_,rfl⟩;rw[<-hPB]at hP⊢;clear hPB hlp g1 gl b1 b2 bl hr1 hb1 HLP;generalize U1.alloc (.cells #[.string p.id,.slice CA p.cas.length ccap,.string p.cur,.int .i64 p.units,.slice PA p.parts.length pcap] 42)=U2 at*;have hC2:=HC.out.below hb2;have f1:=hC2.f.cell;have fl:=hC2.f.lt;have g1:=hC2.g.cell;have gl:=hC2.g.lt;have p0:=hP.at0;have p1:=hP.at1;have p2:=hP.at2;have p3:=hP.at3;have p4:=hP.at4;have pl:=hP.lt;have HU2:=hid (And.intro hr2 (And.intro hb2 hP));have HCALL2:=hid (HCALL.out U2 hC2.gd);obtain⟨a,b,c,hx,-⟩:=resV_form (of p).1;rw[hx]at HCALL2;have HX:=hid hx;clear hr2 hb2 hP hC2 HCALL hx;go_upto_region 6 with(go_at_fn FN;refine HCALL2.out.mono ?_;rintro e U3 ⟨rfl,hb3⟩;have HB3:=hid (And.intro (HU2.out.1.below hb3 HU2.out.1.lt) (And.intro (HBEL_trans HU2.out.2.1 hb3) (HU2.out.2.2.below hb3 HU2.out.2.2.lt)));clear hb3)
  have hF:=TotF.new HC.out HB3.out.2.1 HB3.out.1 HX.out;have hP:=HB3.out.2.2.alloc (.cells #[.bool a,.string b,.string c,.int .i64 (of p).1.2] 80);obtain⟨XB,hXB⟩:∃XB,XB=U3.heap.size:=⟨_,rfl⟩;rw[<-hXB]at hF⊢;have HOK:=hid (HRES.out p HPL.out);have HDN:=hid (λ(c:CompD)(hc:c∈p.parts)=>(show c.prod∈idsP l∧rk o c.prod<n∧c.cnt.natAbs<10^13 from⟨ho.known p HPL.out _ (comp_part hc),by have h1:=ho.down HPL.out (comp_part hc);have h2:=HIN.out.2.1;rw[<-HIN.out.2.2]at h2;omega,pcnt_lt HCN.out HPL.out hc⟩));clear hXB HB3 HX HU2 HHOF HRES HCALL2;generalize U3.alloc (.cells #[.bool a,.string b,.string c,.int .i64 (of p).1.2] 80)=U4 at*;generalize (of p).2=dn at*;generalize (of p).1=x0 at*;have p4:=hP.at4;have pl:=hP.lt;have HF:=hid hF;clear hF hP f1 fl g1 gl p0 p1 p2 p3;go_wp2;go_loopw[38] (λiv wr=>∃(j:Nat)(x:Rt × Int),j≤p.parts.length∧iv= .int .i64 j∧TotF Z w W wr B MM vd vl vr l base day kvp T FN K G F V M XB x∧Hid (x=foldT (λc=>T c.prod) (p.parts.take j) x0∧(dn=true->j=0))∧Hid (ResOk x)) (λiv _=>p.parts.length-(intOf iv).toNat);case atStart=>exact⟨0,x0,Nat.zero_le _,rfl,HF.out,hid ⟨rfl,λ_=>rfl⟩,HOK⟩
  case round=>
   obtain⟨j,x,hj,rfl,hF,hxf,HXK⟩:=hrel;clear HF p4 pl;by_cases hjl:j<p.parts.length
   ·obtain⟨pb,poff,pcs,rfl,hzp,hpc,hpe⟩:=HPS.out.at_ hjl;have hpbs:=HZ.out pb hzp;subst hpe;(have hbe:Below w.heap.size w wr:=by obtain⟨_,hc⟩:=hF.c;exact hc.gd.be);obtain⟨d0,d1⟩:=comp_cells (cells_below hbe hpbs hpc);have HCH:=hid (And.intro (HDN.out _ (List.getElem_mem hjl)).1 (HDN.out _ (List.getElem_mem hjl)).2.1);have HCN2:=hid (HDN.out _ (List.getElem_mem hjl)).2.2
    have HNX:=hid (λ(h:dn=false)=>(show plusR x p.parts[j].cnt (T p.parts[j].prod)=foldT (λc=>T c.prod) (p.parts.take (j+1)) x0∧(dn=true->j+1=0) from⟨by
     rw[take_succ_get hjl];unfold foldT;rw[List.foldl_append];show _=plusR (foldT _ _ _) _ _;rw[<-hxf.out.1],λh2=>by rw[h]at h2;cases h2⟩))
    have HXN:=hid (plusR_res HXK.out (HTR.out p.parts[j].prod) HCN2.out)
    have HT2:=hid (λ(h:dn=false)(hne:x.2≠0)=>(show T id=x from by
     rw[HT.out,if_neg (by rw[h];decide)]
     conv=>lhs;rw[<-List.take_append_drop j p.parts]
     unfold foldT;rw[List.foldl_append];show foldT _ _ (foldT _ _ _)=x;rw[<-hxf.out.1]
     exact foldT_bad hne))
    have HT1:=hid (λ(h:dn=true)=>(show T id=x from by
     rw[HT.out,if_pos h,hxf.out.1,hxf.out.2 h];rfl))
    (have hj1:((j:Nat):Int)<(p.parts.length:Int):=by omega);(have hj0:(0:Int)≤((j:Nat):Int):=by omega);clear hpc hbe hxf;generalize p.parts[j]=cc at*;obtain⟨cp,cn⟩:=cc;dsimp only at*;have hCB:=Blk.new wr 51 #[.string cp,.int .i64 cn];have HCM:=hid (show wr.heap.size≠M from by have h1:=hF.hm;have h2:=hF.kp.size;omega);have hF1:=hF.below (below1 wr (.cells #[.string cp,.int .i64 cn] 51));obtain⟨CB,hCBe⟩:∃CB,CB=wr.heap.size:=⟨_,rfl⟩;rw[<-hCBe]at hCB HCM;have HD:=hid (And.intro d0 d1);(go_upto_region 9 with fail);rw[<-hCBe];clear hCBe hF d0 d1 HD;generalize wr.alloc (.cells #[.string cp,.int .i64 cn] 51)=u1 at*;cases dn
    ·have hwq:=hF1.x;obtain⟨wa,wb,wc,-,hwx⟩:=hwq;have x3:=hwx.at3;have xl:=hwx.lt;by_cases hxe:x.2=0
     ·have HNX':=hid (HNX.out rfl);clear hwx HNX HT1 HT2;rw[hxe]at x3;have HF1:=hid (And.intro hF1 hCB);clear hF1 hCB;(go_upto_region 10 with fail);have hF:=HF1.out.1;have hCB:=HF1.out.2;clear x3 xl HF1;go_wp2;refine wp_region_S 8 (λU=>TotF Z w W U B MM vd vl vr l base day kvp T FN K G F V M XB x∧Blk U CB 51 #[.string cp,.int .i64 cn]) (by kernel_rfl) ?_;have hS:(λU=>TotF Z w W U B MM vd vl vr l base day kvp T FN K G F V M XB x∧Blk U CB 51 #[.string cp,.int .i64 cn]) u1.drew:=⟨hF.below (Below.refl _ _).drew,hCB⟩;clear hF hCB;generalize u1.drew=u2 at*;obtain⟨xa,xb,xc,hxv,-⟩:=resV_form x
      have HC7:=hid (λU(hU:TotF Z w W U B MM vd vl vr l base day kvp T FN K G F V M XB x∧Blk U CB 51 #[.string cp,.int .i64 cn])=>(show U.cell? ⟨XB,0,none⟩=some (.bool xa)∧U.cell? ⟨XB,1,none⟩=some (.string xb)∧U.cell? ⟨XB,2,none⟩=some (.string xc)∧U.cell? ⟨XB,3,none⟩=some (.int .i64 x.2)∧U.cell? ⟨V,0,none⟩=some (.func (.func 63) #[] #[.pointer (some ⟨K,0,none⟩),.pointer (some ⟨G,0,none⟩),.pointer (some ⟨F,0,none⟩),.pointer (some ⟨V,0,none⟩)])∧U.cell? ⟨CB,0,none⟩=some (.string cp)∧U.cell? ⟨CB,1,none⟩=some (.int .i64 cn) from by
       obtain⟨hU1,hU2⟩:=hU;obtain⟨a',b',c',he,hX⟩:=hU1.x;rw[hxv]at he;injection he with he;simp at he;obtain⟨rfl,rfl,rfl⟩:=he;obtain⟨kv,hc⟩:=hU1.c
       exact⟨hX.at0,hX.at1,hX.at2,hX.at3,hc.v.cell,hU2.at0,hU2.at1⟩))
      (refine tkS 0 ?_ hS ?_ ?_;rotate_left;intro w hkw;obtain⟨x0,x1,x2,x3,v0,c0,c1⟩:=HC7.out _ hkw;clear hkw;go_simp;(try with_reducible rfl);simp only[nr])
      try simp only[List.getElem_toArray,List.getElem_cons_zero,List.getElem_cons_succ,nr]
      (refine tkZ 1 ?_ hS ?_ ?_;rotate_left;intro w;go_simp;(try with_reducible rfl);simp only[nr])
      try simp only[List.getElem_toArray,List.getElem_cons_zero,List.getElem_cons_succ,nr]
      (refine tkS 2 ?_ hS ?_ ?_;rotate_left;intro w hkw;obtain⟨x0,x1,x2,x3,v0,c0,c1⟩:=HC7.out _ hkw;clear hkw;go_simp;(try with_reducible rfl);simp only[nr])
      try simp only[List.getElem_toArray,List.getElem_cons_zero,List.getElem_cons_succ,nr]
      (refine tkS 3 ?_ hS ?_ ?_;rotate_left;intro w hkw;obtain⟨x0,x1,x2,x3,v0,c0,c1⟩:=HC7.out _ hkw;clear hkw;go_simp;(try with_reducible rfl);simp only[nr])
      try simp only[List.getElem_toArray,List.getElem_cons_zero,List.getElem_cons_succ,nr]
      (refine tkZ 4 ?_ hS ?_ ?_;rotate_left;intro w;go_simp;(try with_reducible rfl);simp only[nr])
      try simp only[List.getElem_toArray,List.getElem_cons_zero,List.getElem_cons_succ,nr]
      (refine tkS 5 ?_ hS ?_ ?_;rotate_left;intro w hkw;obtain⟨x0,x1,x2,x3,v0,c0,c1⟩:=HC7.out _ hkw;clear hkw;go_simp;(try with_reducible rfl);simp only[nr])
      (try simp only[List.getElem_toArray,List.getElem_cons_zero,List.getElem_cons_succ,nr]);refine wS1 6 (λK' hK=> ?_);(go_wp2_with fail);obtain⟨kv2,hc2⟩:=hS.1.c;refine(IH.out cp u2 kv2 HCH.out.1 HCH.out.2 hc2).mono ?_;rintro e u3 ⟨rfl,hk3,kv3,hc3⟩;have hS3:(λU=>TotF Z w W U B MM vd vl vr l base day kvp T FN K G F V M XB x∧Blk U CB 51 #[.string cp,.int .i64 cn]) u3:=⟨hS.1.keep hk3 ⟨kv3,hc3⟩,hS.2.keep hk3 HCM.out⟩;refine hK _ _ (Or.inr hS3) ?_;clear hK K' hS hc2 hk3;(try simp only[List.getElem_toArray,List.getElem_cons_zero,List.getElem_cons_succ,nr]);replace hS:(λU=>TotF Z w W U B MM vd vl vr l base day kvp T FN K G F V M XB x∧Blk U CB 51 #[.string cp,.int .i64 cn]) u3:=hS3;clear hS3;refine wS1 7 (λK' hK=> ?_);(go_wp2_with fail);have HPP:=plus_any x (T cp) cn HXK.out (HTR.out cp) HCN2.out u3 ((HTB.out.on hc3.gd.be).mono hc3.gd.be.size);rw[hxv,hxe]at HPP;refine HPP.mono ?_;obtain⟨ya,yb,yc,hyv,-⟩:=resV_form (plusR x cn (T cp));rw[hyv];rintro e u4 ⟨rfl,hb4⟩;have hS4:(λU=>TotF Z w W U B MM vd vl vr l base day kvp T FN K G F V M XB x∧Blk U CB 51 #[.string cp,.int .i64 cn]) u4:=⟨hS.1.below hb4,hS.2.below hb4 hS.2.lt⟩;refine hK _ _ (Or.inr hS4) ?_;clear hK K' hS HPP hb4 hc3;(try simp only[List.getElem_toArray,List.getElem_cons_zero,List.getElem_cons_succ,nr]);have HF4:=hid hS4.1;obtain⟨a',b',c',-,hX⟩:=hS4.1.x;have q0:=hX.at0;have q1:=hX.at1;have q2:=hX.at2;have q3:=hX.at3;have f0:=hX.frozen 0;have f1:=hX.frozen 1;have f2:=hX.frozen 2;have f3:=hX.frozen 3;have ql:=hX.lt;clear hX;refine wS1 8 (λK' hK=> ?_);(go_wp2_with fail);refine hK _ _ (Or.inl rfl) ?_;clear hK K' hS4 q0 q1 q2 q3 f0 f1 f2 f3 ql;(try simp only[List.getElem_toArray,List.getElem_cons_zero,List.getElem_cons_succ,nr]);refine wSd ?_ _;have HF5:=hid (HF4.out.put _ hyv);generalize (((u4.setCell ⟨XB,0,none⟩ (.bool ya)).setCell ⟨XB,1,none⟩ (.string yb)).setCell ⟨XB,2,none⟩ (.string yc)).setCell ⟨XB,3,none⟩ (.int .i64 (plusR x cn (T cp)).2)=u5 at*;clear HF4 hxv hyv HC7;go_wp2;go_roundw;(case rel=>exact⟨j+1,_,by omega,by go_num,HF5.out,hid HNX'.out,hid HXN.out⟩);case measure=>simp[intOf];omega
     ·have hF:=hF1;have HF1:=hid hF1;have HTE:=hid (HT2.out rfl hxe);(have hxe2:(x.2==0)=false:=by simp[hxe]);clear hwx hCB hF1 hF HNX HT1 HT2;(go_upto_region 12 with fail);have hF:=HF1.out;clear x3 xl HF1;have hTE:=HTE.out;rw[<-hTE]at hF;clear hTE;obtain⟨kv1,hc⟩:=hF.c;obtain⟨ta,tb,tc,htx,hX⟩:=hF.x;have k1:=hc.k.cell;have kl:=hc.k.lt;have q0:=hX.at0;have q1:=hX.at1;have q2:=hX.at2;have q3:=hX.at3;have ql:=hX.lt;have HMP:=hid hc.m;have HFF:=hid (And.intro hF hc);clear hF hc hX;(go_upto_region 13 with(at_mapUpdate;refine wpList_mapStore rfl (.tmp 57) (.tmp 58) _ rfl (keyOk_string (P:=Tryz.prog) (k:=9) Tryz.underlying9) (e:=80) Tryz.underlying116 rfl HMP.out id rfl ?_;intro w5 hm5 hk5 hsz5 hce5 hfr5));have hm5:MapIs encS w5 M (kvSet kv1 id (.agg #[.bool ta,.string tb,.string tc,.int .i64 (T id).2])):=hm5;rw[<-htx]at hm5;have hF:=HFF.out.1.keep hk5 ⟨_,HFF.out.2.keep hk5 hm5 (HFF.out.2.kn.set id)⟩;have q0:=(hce5 ⟨XB,0,none⟩).trans q0;have q1:=(hce5 ⟨XB,1,none⟩).trans q1;have q2:=(hce5 ⟨XB,2,none⟩).trans q2;have q3:=(hce5 ⟨XB,3,none⟩).trans q3;(have ql:XB<w5.heap.size:=by omega);have r0:=hF.r.at0;have r1:=hF.r.at1;have r2:=hF.r.at2;have r3:=hF.r.at3;have g0:=hF.r.frozen 0;have g1:=hF.r.frozen 1;have g2:=hF.r.frozen 2;have g3:=hF.r.frozen 3;have gl:=hF.r.lt;have H6:=hid hF;have HTX:=hid htx;clear hF hm5 hk5 hsz5 hce5 hfr5 k1 kl HMP HFF htx;(go_wp2_with fail);have HO:=H6.out.out ta tb tc (T id).2;have r0:=HO.1.at0;have r1:=HO.1.at1;have r2:=HO.1.at2;have r3:=HO.1.at3;exact bodyPost_ret (v:= .agg #[.bool ta,.string tb,.string tc,.int .i64 (T id).2]) (by simp[results,Tryz.results63,go_sem,r0,r1,r2,r3]) rfl ⟨by rw[HTX.out],HO.2⟩
    ·have HF1:=hid hF1;have HTE:=hid (HT1.out rfl);clear hCB hF1 HNX HT1 HT2;(go_upto_region 12 with fail);have hF:=HF1.out;clear HF1;have hTE:=HTE.out;rw[<-hTE]at hF;clear hTE;obtain⟨kv1,hc⟩:=hF.c;obtain⟨ta,tb,tc,htx,hX⟩:=hF.x;have k1:=hc.k.cell;have kl:=hc.k.lt;have q0:=hX.at0;have q1:=hX.at1;have q2:=hX.at2;have q3:=hX.at3;have ql:=hX.lt;have HMP:=hid hc.m;have HFF:=hid (And.intro hF hc);clear hF hc hX;(go_upto_region 13 with(at_mapUpdate;refine wpList_mapStore rfl (.tmp 57) (.tmp 58) _ rfl (keyOk_string (P:=Tryz.prog) (k:=9) Tryz.underlying9) (e:=80) Tryz.underlying116 rfl HMP.out id rfl ?_;intro w5 hm5 hk5 hsz5 hce5 hfr5));have hm5:MapIs encS w5 M (kvSet kv1 id (.agg #[.bool ta,.string tb,.string tc,.int .i64 (T id).2])):=hm5;rw[<-htx]at hm5;have hF:=HFF.out.1.keep hk5 ⟨_,HFF.out.2.keep hk5 hm5 (HFF.out.2.kn.set id)⟩;have q0:=(hce5 ⟨XB,0,none⟩).trans q0;have q1:=(hce5 ⟨XB,1,none⟩).trans q1;have q2:=(hce5 ⟨XB,2,none⟩).trans q2;have q3:=(hce5 ⟨XB,3,none⟩).trans q3;(have ql:XB<w5.heap.size:=by omega);have r0:=hF.r.at0;have r1:=hF.r.at1;have r2:=hF.r.at2;have r3:=hF.r.at3;have g0:=hF.r.frozen 0;have g1:=hF.r.frozen 1;have g2:=hF.r.frozen 2;have g3:=hF.r.frozen 3;have gl:=hF.r.lt;have H6:=hid hF;have HTX:=hid htx;clear hF hm5 hk5 hsz5 hce5 hfr5 k1 kl HMP HFF htx;(go_wp2_with fail);have HO:=H6.out.out ta tb tc (T id).2;have r0:=HO.1.at0;have r1:=HO.1.at1;have r2:=HO.1.at2;have r3:=HO.1.at3;exact bodyPost_ret (v:= .agg #[.bool ta,.string tb,.string tc,.int .i64 (T id).2]) (by simp[results,Tryz.results63,go_sem,r0,r1,r2,r3]) rfl ⟨by rw[HTX.out],HO.2⟩
   ·(obtain rfl:j=p.parts.length:=by omega);have HF1:=hid hF
    have HTE:=hid (show T id=x from by
     cases hdn:dn with
     |true=>rw[HT.out,if_pos hdn,hxf.out.1,hxf.out.2 hdn];rfl
     |false=>rw[HT.out,if_neg (by rw[hdn];decide),hxf.out.1,List.take_length])
    clear hF;(go_upto_region 12 with fail);have hF:=HF1.out;clear HF1;have hTE:=HTE.out;rw[<-hTE]at hF;clear hTE;obtain⟨kv1,hc⟩:=hF.c;obtain⟨ta,tb,tc,htx,hX⟩:=hF.x;have k1:=hc.k.cell;have kl:=hc.k.lt;have q0:=hX.at0;have q1:=hX.at1;have q2:=hX.at2;have q3:=hX.at3;have ql:=hX.lt;have HMP:=hid hc.m;have HFF:=hid (And.intro hF hc);clear hF hc hX;(go_upto_region 13 with(at_mapUpdate;refine wpList_mapStore rfl (.tmp 57) (.tmp 58) _ rfl (keyOk_string (P:=Tryz.prog) (k:=9) Tryz.underlying9) (e:=80) Tryz.underlying116 rfl HMP.out id rfl ?_;intro w5 hm5 hk5 hsz5 hce5 hfr5));have hm5:MapIs encS w5 M (kvSet kv1 id (.agg #[.bool ta,.string tb,.string tc,.int .i64 (T id).2])):=hm5;rw[<-htx]at hm5;have hF:=HFF.out.1.keep hk5 ⟨_,HFF.out.2.keep hk5 hm5 (HFF.out.2.kn.set id)⟩;have q0:=(hce5 ⟨XB,0,none⟩).trans q0;have q1:=(hce5 ⟨XB,1,none⟩).trans q1;have q2:=(hce5 ⟨XB,2,none⟩).trans q2;have q3:=(hce5 ⟨XB,3,none⟩).trans q3;(have ql:XB<w5.heap.size:=by omega);have r0:=hF.r.at0;have r1:=hF.r.at1;have r2:=hF.r.at2;have r3:=hF.r.at3;have g0:=hF.r.frozen 0;have g1:=hF.r.frozen 1;have g2:=hF.r.frozen 2;have g3:=hF.r.frozen 3;have gl:=hF.r.lt;have H6:=hid hF;have HTX:=hid htx;clear hF hm5 hk5 hsz5 hce5 hfr5 k1 kl HMP HFF htx;(go_wp2_with fail);have HO:=H6.out.out ta tb tc (T id).2;have r0:=HO.1.at0;have r1:=HO.1.at1;have r2:=HO.1.at2;have r3:=HO.1.at3;exact bodyPost_ret (v:= .agg #[.bool ta,.string tb,.string tc,.int .i64 (T id).2]) (by simp[results,Tryz.results63,go_sem,r0,r1,r2,r3]) rfl ⟨by rw[HTX.out],HO.2⟩
end
end Go.Proofs.YtimmfbnjndndlaaGreatDoor
