/- Lemmas. -/
import Derived.Test.YtommaegelgilnaaGreatDoorM33
import Derived.Lib.AtoiBound
import Derived.Test.YtommaegelgilnaaGreatDoorM32
set_option linter.all false
namespace Go.Proofs.YtommaegelgilnaaGreatDoor
open Go.RowKit Go.Proofs.Tryz
set_option maxHeartbeats 8000000
set_option maxRecDepth 100000
variable {F F' Z Z':zD}{W w w6 w7 wr:World}{all:List zB}{b m n:Nat}{cs:List Value}{csl:List (List Value)}{ds:List zE}{e:Ending}{f:Fm}{fs:List Fm}{kids:List Int}{o:Obj}{st st':GSt}{v v5 va vb vd vk:Value}
def kvG(d:List (List UInt8 × Int)):List (ByteArray × Value):=d.map λp=>(⟨p.1.toArray⟩,.int .i64 p.2)
theorem bytes_inj{k l:List UInt8}(h:(⟨k.toArray⟩:ByteArray)=⟨l.toArray⟩):k=l:=by
 injection h with h;simpa using congrArg Array.toList h
theorem zPX:∀(d:List (List UInt8 × Int))(k:List UInt8),zAA (kvG d) ⟨k.toArray⟩=(kvI d k).map (.int .i64)
 |[],_=>rfl
 |p::r,k=>by
  have ih:=zPX r k;unfold kvG at ih⊢;rw[List.map_cons,zAA,kvI];by_cases h:k=p.1
  ·rw[if_pos (by rw[h]),if_pos h];rfl
  rw[if_neg (λe=>h (bytes_inj e)),if_neg h,ih]
theorem zPY:∀(d:List (List UInt8 × Int))(k:List UInt8)(v:Int),zAq (kvG d) ⟨k.toArray⟩ (.int .i64 v)=kvG (zCd d k v)
 |[],_,_=>rfl
 |p::r,k,v=>by
  have ih:=zPY r k v;unfold kvG at ih⊢;rw[List.map_cons,zAq,zCd];by_cases h:k=p.1
  ·rw[if_pos (by rw[h]),if_pos h];rfl
  rw[if_neg (λe=>h (bytes_inj e)),if_neg h,List.map_cons,ih]
mutual
theorem zJM{ds:List zE}{nm:ByteArray}:∀f:Fm,okF ds f->∀n∈zAX nm f,0<=n/\n<=1000000
 | .mk op nm' cm nu kids,h,n,a=>by
  have c:=zDD h;obtain⟨_,b,_⟩:=zFm h;rw[zAX]at a;rcases List.mem_append.1 a with a|a
  ·split at a
   ·rename_i h3;simp at a;subst a;have:=(zEL c.1).2 h3.1;exact⟨this.1,this.2.1⟩
   simp at a
  exact zI1 kids b n a
theorem zI1{ds:List zE}{nm:ByteArray}:∀l:List Fm,zEC ds l->∀n∈zAU nm l,0<=n/\n<=1000000
 |[],_,n,a=>by simp[zAU]at a
 |k::r,h,n,a=>by
  rw[zCk]at h;rw[zAU]at a;rcases List.mem_append.1 a with a|a
  ·exact zJM k h.1 n a
  exact zI1 r h.2 n a
end
structure GV where
 Mv:Nat
 Fv:Nat
 Dv:Nat
 Nv:Nat
 Gv:Nat
 M:Nat
 db:Nat
def GV.var(c:GV)(b:Nat):Prop:=b=c.Mv\/b=c.Dv\/b=c.Nv\/b=c.Gv
def GV.fn(c:GV):Value:= .func (.func 173) #[] #[.pointer (some ⟨c.Mv,0,none⟩),.pointer (some ⟨c.Fv,0,none⟩),.pointer (some ⟨c.Dv,0,none⟩),.pointer (some ⟨c.Nv,0,none⟩),.pointer (some ⟨c.Gv,0,none⟩)]
def GV.kept(c:GV)(F:zD):zD:=λb=>¬F b/\b≠c.db/\b≠c.Fv
structure GrW (c:GV) (vd:Value) (w:World) (st:GSt) (F Z:zD):Prop where
 mv:One w c.Mv (.pointer (some ⟨c.M,0,none⟩))
 dv:One w c.Dv vd
 nv:One w c.Nv (.map (some c.db))
 gv:One w c.Gv c.fn
 fv:One w c.Fv (.bool st.full)
 mkr:MkS w c.M st.all F Z
 done:zS encS w c.db (kvG st.done)
 var:∀b,c.var b->c.kept F b
 fF:¬F c.Fv
 dF:¬F c.db
 fd:c.Fv≠c.db
 fZ:¬Z c.Fv
 dZ:¬Z c.db
section grw
variable {c:GV} {vd:Value} {w w' W:World} {st:GSt} {F Z F' Z':zD}
theorem GrW.keep(h:GrW c vd w st F Z)(a:zA (λb=>F b\/Z b\/c.var b\/b=c.Fv\/b=c.db) w w'):GrW c vd w' st F Z:=by
 have v:∀b,c.var b->(λb=>F b\/Z b\/c.var b\/b=c.Fv\/b=c.db) b:=λb d=>Or.inr (Or.inr (Or.inl d))
 exact⟨h.mv.keep a (v _ (Or.inl rfl)),h.dv.keep a (v _ (Or.inr (Or.inl rfl))),h.nv.keep a (v _ (Or.inr (Or.inr (Or.inl rfl)))),h.gv.keep a (v _ (Or.inr (Or.inr (Or.inr rfl)))),
  h.fv.keep a (Or.inr (Or.inr (Or.inr (Or.inl rfl)))),h.mkr.keep (a.mono λb _ d=>d.imp id Or.inl),h.done.of_block (a.block c.db h.done.lt (Or.inr (Or.inr (Or.inr (Or.inr rfl))))),h.var,h.fF,h.dF,h.fd,h.fZ,h.dZ⟩
theorem GrW.below(h:GrW c vd w st F Z)(a:Bw w w'):GrW c vd w' st F Z:=h.keep (.of_below a)
theorem GrW.lt(h:GrW c vd w st F Z):(∀b,c.var b->b<w.heap.size)/\c.Fv<w.heap.size/\c.db<w.heap.size:=
 ⟨λb a=>by rcases a with rfl|rfl|rfl|rfl;exact h.mv.lt;exact h.dv.lt;exact h.nv.lt;exact h.gv.lt,h.fv.lt,h.done.lt⟩
theorem GrW.made(h:GrW c vd w st F Z)(e:Bw w W)(j:MkS w' c.M all F' Z')(hF:∀b,F' b->F b\/W.heap.size<=b)(g:∀b,Z' b->Z b\/W.heap.size<=b)(f:zA (λb=>¬F b) W w'):GrW c vd w' ⟨all,st.done,st.full⟩ F' Z':=by
 have d:=h.below e;have i:=h.lt;have k:=e.size
 refine⟨d.mv.keep f (h.var _ (Or.inl rfl)).1,d.dv.keep f (h.var _ (Or.inr (Or.inl rfl))).1,d.nv.keep f (h.var _ (Or.inr (Or.inr (Or.inl rfl)))).1,d.gv.keep f (h.var _ (Or.inr (Or.inr (Or.inr rfl)))).1,d.fv.keep f h.fF,j,
  d.done.of_block (f.block c.db d.done.lt h.dF),λb e=>⟨λa=> ?_,(h.var b e).2⟩,λa=> ?_,λa=> ?_,h.fd,λa=> ?_,λa=> ?_⟩
 ·rcases hF b a with a|a
  ·exact(h.var b e).1 a
  have:=i.1 b e;omega
 ·rcases hF _ a with a|a
  ·exact h.fF a
  omega
 ·rcases hF _ a with a|a
  ·exact h.dF a
  omega
 ·rcases g _ a with a|a
  ·exact h.fZ a
  omega
 rcases g _ a with a|a
 ·exact h.dZ a
 omega
theorem GrW.setFull(h:GrW c vd w st F Z)(b:Bool):GrW c vd (w.setCell ⟨c.Fv,0,none⟩ (.bool b)) ⟨st.all,st.done,b⟩ F Z:=by
 have d:zA (λb=>b≠c.Fv) w (w.setCell ⟨c.Fv,0,none⟩ (.bool b)):=(zA.refl _ _).setCell (λ_ h=>h rfl) _;have v:=λb a=>(h.var b a).2.2
 exact⟨h.mv.keep d (v _ (Or.inl rfl)),h.dv.keep d (v _ (Or.inr (Or.inl rfl))),h.nv.keep d (v _ (Or.inr (Or.inr (Or.inl rfl)))),h.gv.keep d (v _ (Or.inr (Or.inr (Or.inr rfl)))),
  h.fv.set_ _,h.mkr.keep (d.mono λb _ a e=>by subst e;rcases a with a|a;exact h.fF a;exact h.fZ a),h.done.of_block (d.block c.db h.done.lt h.fd.symm),h.var,h.fF,h.dF,h.fd,h.fZ,h.dZ⟩
theorem GrW.setDone(h:GrW c vd w st F Z){d:List (List UInt8 × Int)}(g:zS encS w' c.db (kvG d))(f:zA (λb=>b≠c.db) w w'):GrW c vd w' ⟨st.all,d,st.full⟩ F Z:=by
 have v:=λb a=>(h.var b a).2.1
 exact⟨h.mv.keep f (v _ (Or.inl rfl)),h.dv.keep f (v _ (Or.inr (Or.inl rfl))),h.nv.keep f (v _ (Or.inr (Or.inr (Or.inl rfl)))),h.gv.keep f (v _ (Or.inr (Or.inr (Or.inr rfl)))),
  h.fv.keep f h.fd,h.mkr.keep (f.mono λb _ a e=>by subst e;rcases a with a|a;exact h.dF a;exact h.dZ a),g,h.var,h.fF,h.dF,h.fd,h.fZ,h.dZ⟩
end grw
def zFL(c:GV)(vd:Value)(w:World)(F Z:zD)(r:Int × GSt)(e:Ending)(w':World):Prop:=
 e= .returned (.int .i64 r.1)/\(∃F' Z',GrW c vd w' r.2 F' Z'/\(∀b,F' b->F b\/w.heap.size<=b)/\(∀b,Z' b->Z b\/w.heap.size<=b))/\zA (c.kept F) w w'
structure zD7 (c:GV) (ds:List zE) (Zd:zD) (D:Option Addr) (dcap B0:Nat) (w:World) (st:GSt) (F Z Zf:zD) (f:Fm) (cs:List Value):Prop where
 mem:GrW c (.slice D ds.length dcap) w st F Z
 fm:FmR Zf w f cs
 offF:∀b,Zf b->c.kept F b/\b<w.heap.size
 d:Facts Zd w (.slice D ds.length dcap) ds
 offD:∀b,Zd b->c.kept F b/\b<w.heap.size
 tab:zBr B0 w
 base:B0<=w.heap.size/\(∀b,F b->B0<=b)/\B0<=c.db/\B0<=c.Fv
 ok:okF ds f
 size:zH f<=200
 wst:WSt st
 len:inn st.all<=4000+ds.length
 dom:zT ds=true
theorem zBf(h:zT ds=true):ds.length<=60:=by
 unfold zT at h;simp only[Bool.and_eq_true,decide_eq_true_eq]at h;exact h.2
theorem zD7.all_len{c:GV}{Zd:zD}{D:Option Addr}{a b:Nat}{F Z Zf:zD}(h:zD7 c ds Zd D a b w st F Z Zf f cs):st.all.length<=4062:=by
 have d:=h.wst.tab.len;have e:=h.len;have g:=zBf h.dom;omega
theorem zRy{c:GV}{vd:Value}{w W w':World}{st:GSt}{F Z:zD}{b:Bool}{e:Ending}(h:GrW c vd w st F Z)(a:Bw w W)(i:zC3 W c.M F (λb=>Z b\/False) (zy st.all ⟨b,0,[],[]⟩) e w'):
  zFL c vd w F Z (zBw b st.full st) e w':=by
 obtain⟨he,⟨F',g,d⟩,f⟩:=i;have j:=a.size;refine⟨he,⟨F',_,h.made a g d (λb a=>a.imp id λh=>h.elim) f,λb a=>(d b a).imp id λh=>by omega,λb a=>a.imp id λh=>h.elim⟩,(zA.of_below a).trans (f.mono λb _ a=>a.1)⟩
theorem zLp(w:World)(F:zD)(b:Bool):zRQ w F (λ_=>False) ⟨b,0,[],[]⟩ [.bool b,.int .i64 0,.slice none 0 0,.slice none 0 0]:=
 ⟨⟨_,_,rfl,by show I64 0;constructor<;>omega,zO.nil _ _,zO.nil _ _⟩,λb h=>h.elim,by simp,by simp⟩
theorem Tryz.egBuild1:∀args w,(callFunc 173 args).run prog w= .ok (.enter 173 args) w:=enters_of func173 (by kernel_rfl) rfl
abbrev GV.args(c:GV)(cs:List Value)(i:Nat):Array Value:=#[.agg cs.toArray,.int .i64 i,.pointer (some ⟨c.Mv,0,none⟩),.pointer (some ⟨c.Fv,0,none⟩),.pointer (some ⟨c.Dv,0,none⟩),.pointer (some ⟨c.Nv,0,none⟩),.pointer (some ⟨c.Gv,0,none⟩)]
section
variable {c:GV} {ds:List zE} {Zd:zD} {D:Option Addr} {dcap B0:Nat} {w:World} {st:GSt} {F Z Zf:zD} {f:Fm} {cs:List Value}
theorem zD7.node(h:zD7 c ds Zd D dcap B0 w st F Z Zf f cs)(b:Bool)(a:Bw w W):
  Calls prog 119 #[.pointer (some ⟨c.M,0,none⟩),.agg #[.bool b,.int .i64 0,.slice none 0 0,.slice none 0 0]] W (zC3 W c.M F (λb=>Z b\/False) (zy st.all ⟨b,0,[],[]⟩)):=
 zG3 c.M st.all F Z (λ_=>False) ⟨b,0,[],[]⟩ [.bool b,.int .i64 0,.slice none 0 0,.slice none 0 0] W (h.mem.mkr.below a) (zLp W F b) (by have:=h.all_len;omega) ((h.tab.on (a.mono h.base.1)).mono (by have:=h.base.1;have:=a.size;omega))
theorem zMb(i:Nat)(h:zD7 c ds Zd D dcap B0 w st F Z Zf f cs)(u:f.op=1\/f.op=2):
  Calls prog 173 (c.args cs i) w (zFL c (.slice D ds.length dcap) w F Z (zBw (decide (f.op=1)) st.full st)):=by
 have m:=hid (λ(b:Bool)(W w':World)(e:Ending)(j:Bw w W) a=> @zRy c (.slice D ds.length dcap) w W w' st F Z b e h.mem j a);have k:=hid (λ(b:Bool)(W:World)(j:Bw w W)=>h.node b j);obtain⟨A,n,rfl⟩:=FmR.form h.fm;have v:=h.mem.mv.cell;have s:=h.mem.mv.lt;have d:=hid (λo=>zG w o);clear h;unfold GV.args;generalize f.op=op at*;by_cases q:op=1
 ·subst q;go_enter func173,ntmps173
  go_wp2_with fail
  refine(k true _ (d _)).mono ?_;intro e t a;have g:=hid (m true _ _ _ (d _) a);obtain⟨rfl,-⟩:=a;go_wp2;go_ret;exact g.out
 obtain rfl:op=2:=by omega
 go_enter func173,ntmps173
 go_wp2_with fail
 refine(k false _ (d _)).mono ?_;intro e t a;have g:=hid (m false _ _ _ (d _) a);obtain⟨rfl,-⟩:=a;go_wp2;go_ret;exact g.out
theorem MkS.all_cell{M:Nat}(h:MkS w M all F Z):∃A cap,w.cell? ⟨M,0,none⟩=some (.slice A all.length cap)/\M<w.heap.size:=by
 obtain⟨⟨v,d,csl,a,b,-⟩,c,-⟩:=h;obtain⟨A,cap,rfl,-⟩:=Row.of_own b (by decide);exact⟨A,cap,a.cell 0,a.lt⟩
theorem zQg{W w':World}{b full:Bool}{e:Ending}{vd:Value}(h:GrW c vd W ⟨st.all,st.done,full⟩ F Z)(g:zA (c.kept F) w W)(j:zC3 W c.M F (λb=>Z b\/False) (zy st.all ⟨b,0,[],[]⟩) e w'):
  zFL c vd w F Z (zBw b full st) e w':=by
 obtain⟨he,⟨F',i,d⟩,f⟩:=j;have k:=g.size;refine⟨he,⟨F',_,GrW.made h (Below.refl _ _) i d (λb a=>a.imp id λh=>h.elim) f,λb a=>(d b a).imp id λh=>by omega,λb a=>a.imp id λh=>h.elim⟩,g.trans (f.mono λb _ a=>a.1)⟩
theorem zKS(o:Obj)(u:Value):zA (c.kept F) w ((w.setCell ⟨c.Fv,0,none⟩ u).alloc o):=((zA.refl _ _).setCell (λ_ h=>h.2.2 rfl) u).alloc o
theorem zD7.belowB(h:zD7 c ds Zd D dcap B0 w st F Z Zf f cs)(a:zA (c.kept F) w W):Below B0 w W:=
 ⟨a.os,a.tape,a.output,a.size,λb e=>a.block b (by have:=h.base.1;omega) ⟨λd=>by have:=h.base.2.1 b d;omega,by have:=h.base.2.2.1;omega,by have:=h.base.2.2.2;omega⟩⟩
theorem zD7.node2(h:zD7 c ds Zd D dcap B0 w st F Z Zf f cs)(b full:Bool)(d:GrW c vd W ⟨st.all,st.done,full⟩ F Z)(a:zA (c.kept F) w W):
  Calls prog 119 #[.pointer (some ⟨c.M,0,none⟩),.agg #[.bool b,.int .i64 0,.slice none 0 0,.slice none 0 0]] W (zC3 W c.M F (λb=>Z b\/False) (zy st.all ⟨b,0,[],[]⟩)):=
 zG3 c.M st.all F Z (λ_=>False) ⟨b,0,[],[]⟩ [.bool b,.int .i64 0,.slice none 0 0,.slice none 0 0] W d.mkr (zLp W F b) (by have:=h.all_len;omega) ((h.tab.on (h.belowB a)).mono (by have:=h.base.1;have:=a.size;omega))
theorem zMc(i:Nat)(h:zD7 c ds Zd D dcap B0 w st F Z Zf f cs)(U:¬(f.op=1\/f.op=2))(Q:i<=ds.length)(v:(st.full||decide (4000<st.all.length))=true\/i=ds.length):
  Calls prog 173 (c.args cs i) w (zFL c (.slice D ds.length dcap) w F Z (zBw false (st.full||decide (4000<st.all.length)) st)):=by
 have K:=hid (λ(o:Obj)(b:Bool)=>(h.mem.setFull b).below (zG _ o));have I:=hid (λ(q:Bool)(W:World) a m=>h.node2 false q (vd:= .slice D ds.length dcap) (W:=W) a m);have J:=hid (λ(q:Bool)(W w':World)(e:Ending) a m s=> @zQg c w st F Z W w' false q e (.slice D ds.length dcap) a m s);have H:=hid (λ(o:Obj)(u:Value)=> @zKS c w F o u);obtain⟨A,d,rfl⟩:=FmR.form h.fm;obtain⟨X,N,L,x⟩:=h.mem.mkr.all_cell;have z:=h.mem.mv.cell;have k:=h.mem.mv.lt;have t:=h.mem.fv.cell;have y:=h.mem.fv.free;have j:=h.mem.fv.lt;have V:=zBf h.dom;have Y:(f.op==(1:Int))=false:=by simp;omega
 have e2:(f.op==(2:Int))=false:=by simp;omega
 clear h U;unfold GV.args;generalize f.op=op at*;generalize T:st.all.length=n at*
 cases O:st.full with
 |true=>
  rw[O]at t;clear v;go_enter func173,ntmps173
  go_upto_region 4 with(fail)
  have a:=K (.cells #[.int .i64 op,.string f.name,.int .i64 f.cmp,.int .i64 f.num,.slice A f.kids.length d] 52) true;have m:=H (.cells #[.int .i64 op,.string f.name,.int .i64 f.cmp,.int .i64 f.num,.slice A f.kids.length d] 52) (.bool true);have g:=hid (And.intro a m);have E:=(a.dv.cell);clear z k t y j L x;have z:=a.mv.cell;have k:=a.mv.lt;have C:=a.dv.lt;have t:=a.fv.cell;have j:=a.fv.lt;clear a m;generalize (w.setCell ⟨c.Fv,0,none⟩ (.bool true)).alloc _=W at*;go_wp2_with fail
  refine(I true _ g.1 g.2).mono ?_;intro e P s;have B:=hid (J true _ _ _ g.1 g.2 s);obtain⟨rfl,-⟩:=s;go_wp2;go_ret;exact B.out
 |false=>
 rw[O]at t v;rw[Bool.false_or]at v;by_cases G:4000<n
 ·have R:decide ((4000:Int)<(n:Int))=true:=by simp;omega
  have M:decide (4000<n)=true:=by simp;omega
  rw[decide_eq_true G,Bool.false_or];clear v G;go_enter func173,ntmps173
  go_upto_region 4 with(fail)
  have a:=K (.cells #[.int .i64 op,.string f.name,.int .i64 f.cmp,.int .i64 f.num,.slice A f.kids.length d] 52) true;have m:=H (.cells #[.int .i64 op,.string f.name,.int .i64 f.cmp,.int .i64 f.num,.slice A f.kids.length d] 52) (.bool true);have g:=hid (And.intro a m);have E:=(a.dv.cell);clear z k t y j L x;have z:=a.mv.cell;have k:=a.mv.lt;have C:=a.dv.lt;have t:=a.fv.cell;have j:=a.fv.lt;clear a m;generalize (w.setCell ⟨c.Fv,0,none⟩ (.bool true)).alloc _=W at*;go_wp2_with fail
  refine(I true _ g.1 g.2).mono ?_;intro e P s;have B:=hid (J true _ _ _ g.1 g.2 s);obtain⟨rfl,-⟩:=s;go_wp2;go_ret;exact B.out
 have R:decide ((4000:Int)<(n:Int))=false:=by simp;omega
 have M:decide (4000<n)=false:=by simp;omega
 rw[decide_eq_false G]at v;rw[decide_eq_false G,Bool.false_or];have e4:((i:Int)==(ds.length:Int))=true:=by simp at v;simp[v]
 clear v G;go_enter func173,ntmps173
 go_upto_region 4 with(fail)
 have a:=K (.cells #[.int .i64 op,.string f.name,.int .i64 f.cmp,.int .i64 f.num,.slice A f.kids.length d] 52) false;have m:=H (.cells #[.int .i64 op,.string f.name,.int .i64 f.cmp,.int .i64 f.num,.slice A f.kids.length d] 52) (.bool false);have g:=hid (And.intro a m);have E:=(a.dv.cell);clear z k t y j L x;have z:=a.mv.cell;have k:=a.mv.lt;have C:=a.dv.lt;have t:=a.fv.cell;have j:=a.fv.lt;clear a m;generalize (w.setCell ⟨c.Fv,0,none⟩ (.bool false)).alloc _=W at*;go_wp2_with fail
 refine(I false _ g.1 g.2).mono ?_;intro e P s;have B:=hid (J false _ _ _ g.1 g.2 s);obtain⟨rfl,-⟩:=s;go_wp2;go_ret;exact B.out
end
theorem zIK{σ:Type}(f:Int->σ->Int × σ):∀(l:List Int)(v:Int)(st:σ),zW f (l++[v]) st=((zW f l st).1++[(f v (zW f l st).2).1],(f v (zW f l st).2).2)
 |[],_,_=>rfl
 |a::l,v,st=>by
  have ih:=zIK f l v (f a st).2;rw[List.cons_append,zW,zW,ih];rfl
structure GrL (c:GV) (vd:Value) (w6 wr:World) (F Z:zD) (st':GSt) (kids:List Int) (vk:Value) (F' Z':zD):Prop where
 own:wr.ownsRow w6.heap.size 3 1 vk kids.length (kids.map (.int .i64))
 row:∀b,vk.ownBlock=some b->c.kept F' b/\¬Z' b/\¬c.var b
 mem:GrW c vd wr st' F' Z'
 hF:∀b,F' b->F b\/w6.heap.size<=b
 hZ:∀b,Z' b->Z b\/w6.heap.size<=b
 kept:zA (c.kept F) w6 wr
theorem GrL.start{c:GV}(h:GrW c vd w6 st F Z):GrL c vd w6 w6 F Z st [] (.slice none 0 0) F Z:=
 ⟨World.ownsRow_nil _ _ _ _,λb a=>(by cases a),h,λb a=>Or.inl a,λb a=>Or.inl a,zA.refl _ _⟩
theorem zDY{c:GV}(h:∀b,F' b->F b\/n<=b)(d:c.kept F b)(e:b<m)(f:m<=n):c.kept F' b:=
 ⟨λa=>by
  rcases h b a with a|a
  ·exact d.1 a
  omega,d.2⟩
theorem GrL.step{c:GV}{z wr K u n:World}{r:Int × GSt}(h:GrL c vd z wr F Z st' kids vk F' Z')(f:Bw wr K)
  (P:zFL c vd K F' Z' r e u)(N:(u.alloc o).grownBy n vk.ownBlock)(O:n.ownsRow z.heap.size 3 1 v5 (kids.length+1) (kids.map (.int .i64)++[.int .i64 r.1]))(B:v5.ownBlock=vk.ownBlock\/v5.ownBlock=some (u.alloc o).heap.size):
  ∃j m,GrL c vd z n F Z r.2 (kids++[r.1]) v5 j m:=by
 obtain⟨-,⟨j,m,C,q,s⟩,g⟩:=P;have E:=f.size;have R:=g.size;have t:=C.lt;have D:u.ownsRow z.heap.size 3 1 vk kids.length (kids.map (.int .i64)):=zXL (zXL h.own (zA.of_below (Z:=λ_=>True) f) (λ_ _=>trivial)) g (λk v=>(h.row k v).1);have H:∀b,vk.ownBlock=some b->b<wr.heap.size:=λb a=>(h.own.lt b a).2
 have y:∀b,vk.ownBlock=some b->c.kept j b/\¬m b/\¬c.var b:=λb a=>by
  have A:=h.row b a;have L:=H b a;refine⟨zDY q A.1 L E,λi=> ?_,A.2.2⟩;rcases s b i with i|i
  ·exact A.2.1 i
  omega
 have w:=C.mkr;have d:zA (λb=>vk.ownBlock≠some b) u n:=((zA.refl _ _).alloc o).grown N (λk v _ i=>i v);refine⟨j,m,by simpa using O,λb a=> ?_,C.keep (d.mono λb I a e=> ?_),λb a=> ?_,λb a=> ?_,?_⟩
 ·rcases B with e|e
  ·rw[e]at a;exact y b a
  rw[e]at a;injection a with a;subst a;have G:(u.alloc o).heap.size =u.heap.size+1:=by simp
  rw[G];refine⟨⟨λM=> ?_,?_,?_⟩,λi=> ?_,λT=> ?_⟩
  ·have:=w.liveF _ M;omega
  ·have:=t.2.2;omega
  ·have:=t.2.1;omega
  ·have:=w.liveZ _ i;omega
  have:=t.1 _ T;omega
 ·have x:=y b e;rcases a with a|a|a|a|a
  ·exact x.1.1 a
  ·exact x.2.1 a
  ·exact x.2.2 a
  ·exact x.1.2.2 a
  exact x.1.2.1 a
 ·rcases q b a with a|a
  ·exact h.hF b a
  have:=h.kept.size;exact Or.inr (by omega)
 ·rcases s b a with a|a
  ·exact h.hZ b a
  have:=h.kept.size;exact Or.inr (by omega)
 have Q:=h.kept.size;have J:=d.size;refine⟨d.os.trans (g.os.trans (f.os.trans h.kept.os)),d.tape.trans (g.tape.trans (f.tape.trans h.kept.tape)),d.output.trans (g.output.trans (f.output.trans h.kept.output)),by omega,λk v i=> ?_⟩;rw[d.block k (by omega) (λe=>by have:=(h.own.lt k e).1;omega),g.block k (by omega) (zDY h.hF i v (Nat.le_refl _)),f.block k (by omega),h.kept.block k v i]
section
open Go.Shelf
theorem zMd(i:Nat)(f:Fm):(⟨(Lib.itoa (i:Int)).toArray⟩:ByteArray)++⟨(zBN f).toArray⟩=⟨(zCc i f).toArray⟩:=by
 unfold zCc;apply ByteArray.ext;simp
theorem zOF{i:Nat}(hi:i<=100)(h:(zBN f).length <=20000):(zCc i f).length <=20021:=by
 unfold zCc;have:=Lib.itoa_length_le (i:Int) (by omega) (by omega);rw[List.length_append];omega
theorem Tryz.lookK{d:List (List UInt8 × Int)}(h:zS encS w b (kvG d))(k:List UInt8):
  (Instr.lookup 142 (.map (some b)) (.string ⟨k.toArray⟩) true).run prog w= .ok (.tuple #[(match kvI d k with|some v=> .int .i64 v|none=> .int .i64 0),.bool (kvI d k).isSome]) w:=by
 rw[Tryz.lookI h,zPX,if_pos rfl];cases kvI d k<;>rfl
section
variable {c:GV} {ds:List zE} {Zd:zD} {D:Option Addr} {dcap B0:Nat} {w:World} {st:GSt} {F Z Zf:zD} {f:Fm} {cs:List Value}
theorem zD7.spell(h:zD7 c ds Zd D dcap B0 w st F Z Zf f cs){a:World}(d:zA (c.kept F) w a):
  Calls prog 174 #[.pointer (some ⟨a.heap.size,0,none⟩),.agg cs.toArray] (a.alloc (.cells #[.pointer none,.slice none 0 0] 240)) λe w'=>
   e= .returned (.tuple #[])/\IsB a.heap.size a.heap.size (Lib.byteCells (zBN f)) w'/\Bw a w':=by
 have o:=d.size;have m:FmR (λb=>Zf b/\b<w.heap.size) a f cs:=FmR.keep (d.mono λb _ k=>(h.offF b k.1).1) _ _ (FmR.live _ _ h.fm);have g:=zHA f (zF2 f h.ok) (FmR.fitF _ _ h.fm);have n:=h.size
 refine(zRv a.heap.size a.heap.size (λb=>Zf b/\b<w.heap.size) (λz q=>by omega) (zH f) f (Nat.le_refl _) cs [] _ (FmR.keep ((zA.refl _ _).alloc _) _ _ m) (by omega) (by simp;omega)
  (((h.tab.on ((h.belowB d).alloc (by have:=h.base.1;omega) _))).mono (by have:=h.base.1;omega)) (Lib.IsBuilderF.of (Lib.fresh_isBuilder _ _ _)) (by simp)).mono ?_
 rintro e w' ⟨rfl,i,j,-⟩;exact⟨rfl,by simpa using i,(zG a _).trans j⟩
theorem zQh(i:Nat)(h:zD7 c ds Zd D dcap B0 w st F Z Zf f cs)(hc:¬(f.op=1\/f.op=2))(hi:i<ds.length)(hs:(st.full||decide (4000<st.all.length))=false){k:Int}(J:kvI st.done (zCc i f)=some k):
  Calls prog 173 (c.args cs i) w (zFL c (.slice D ds.length dcap) w F Z (k,st)):=by
 simp only[Bool.or_eq_false_iff]at hs;obtain⟨H,Y⟩:=hs;have L:=hid h;have R:=hid J;have T:=hid (show(⟨st.all,st.done,false⟩:GSt)=st from by rw[<-H]);have HS:=hid (λ(o:Obj)=>(h.mem.setFull false).below (zG _ o));have HK:=hid (λ(o:Obj)=> @zKS c w F o (.bool false));have aa:=zOF (i:=i) (f:=f) (by have:=zBf h.dom;omega) (by have:=zHA f (zF2 f h.ok) (FmR.fitF _ _ h.fm);have:=h.size;omega);obtain⟨A,g,rfl⟩:=FmR.form h.fm;obtain⟨AA,ad,a0,U⟩:=h.mem.mkr.all_cell;have m0:=h.mem.mv.cell;have ac:=h.mem.mv.lt;have M:=h.mem.fv.cell;have X:=h.mem.fv.free;have v:=h.mem.fv.lt;have af:=zBf h.dom;have e1:(f.op==(1:Int))=false:=by simp;omega
 have e2:(f.op==(2:Int))=false:=by simp;omega
 have e3:decide ((4000:Int)<(st.all.length:Int))=false:=by simp at Y⊢;omega
 have e4:((i:Int)==(ds.length:Int))=false:=by simp;omega
 rw[H]at M;clear h hc J;unfold GV.args;go_enter func173,ntmps173
 go_upto_region 4 with(fail)
 have y:=HS (.cells #[.int .i64 f.op,.string f.name,.int .i64 f.cmp,.int .i64 f.num,.slice A f.kids.length g] 52);have hk:=HK (.cells #[.int .i64 f.op,.string f.name,.int .i64 f.cmp,.int .i64 f.num,.slice A f.kids.length g] 52);have K:=hid (And.intro y hk);have a:=Blk.new' (w.setCell ⟨c.Fv,0,none⟩ (.bool false)) 52 #[.int .i64 f.op,.string f.name,.int .i64 f.cmp,.int .i64 f.num,.slice A f.kids.length g] (n:=w.heap.size) (by simp[World.setCell]);clear m0 ac M X v a0 U HS HK;have d0:=y.dv.cell;have V:=y.dv.lt;have M:=y.fv.cell;have v:=y.fv.lt;have ab:w.heap.size<((w.setCell ⟨c.Fv,0,none⟩ (.bool false)).alloc (.cells #[.int .i64 f.op,.string f.name,.int .i64 f.cmp,.int .i64 f.num,.slice A f.kids.length g] 52)).heap.size :=by simp[World.setCell]
 generalize ((w.setCell ⟨c.Fv,0,none⟩ (.bool false)).alloc _)=z at*;have P:=hid a;have b0:=a.at0;have b1:=a.at1;have b2:=a.at2;have b3:=a.at3;have b4:=a.at4;clear y hk a;go_wp2_with fail
 refine(L.spell K.2).mono ?_;rintro e w3 ⟨rfl,C,x⟩;have t:zA (c.kept F) w w3:=K.2.trans (.of_below x);have m:zBr z.heap.size w3:=((L.tab.on (L.belowB t)).mono (by have:=L.base.1;omega));have HI:=hid (zGh (B:=z.heap.size) (i:Int) w3 (by constructor<;>omega) m);have u:=hid (And.intro C x)
 have ae:∀W,(Op.stringOp .add ⟨(Lib.itoa (i:Int)).toArray⟩ ⟨(zBN f).toArray⟩).run prog W= .ok (.string ⟨(zCc i f).toArray⟩) W:=λW=>by
  rw[<-zMd];refine run_string_add_sum W _ _ ?_;have h1:=aa;unfold zCc at h1;rw[List.length_append]at h1;simp only[ByteArray.size,List.size_toArray];omega
 clear b0 b1 b2 b3 b4 d0 V M v t m C x;go_wp2_with fail
 refine HI.mono ?_;rintro e w4 ⟨rfl,q⟩;have s:=hid (Tryz.Builder_String_any_f z.heap.size z.heap.size (zBN f) w4 (zJI u.1 q) (by have:=u.2.size;have:=q.size;omega));have N:=hid (zC u.2 q);clear q;go_wp2_with fail
 refine s.mono ?_;rintro e w5 ⟨rfl,-,E⟩;have d:Bw z w5:=N.trans E;have j:=K.1.below d;have O:=hid d;have G:=P.below d ab;have n0:=j.nv.cell;have ag:=j.nv.lt;have hl:=Tryz.lookK j.done (zCc i f);simp only[R.out,Option.isSome_some]at hl;have Q:=hid j;clear E d G j s HI;go_wp2;go_ret;have I:=Q.out;rw[T.out]at I;exact⟨rfl,⟨F,Z,I,λb hb=>Or.inl hb,λb hb=>Or.inl hb⟩,K.2.trans (.of_below O)⟩
end
end
section
open Go.Shelf
def gF(rest:List zE)(i:Nat)(f:Fm)(x:zE)(v:Int)(st:GSt):Int × GSt:=zz rest (i+1) (zZ x.name v f) st
def zLS(rest:List zE)(i:Nat)(f:Fm)(st:GSt)(x:zE):Int × GSt:=
 let r:=zW (gF rest i f x) (zR f x) st;let o:=zAb r.2.all i (zR f x) r.1
 (o.1,⟨o.2,zCd r.2.done (zCc i f) o.1,r.2.full⟩)
def zRz(c:GV)(ds:List zE)(Zd:zD)(D:Option Addr)(dcap B0:Nat)(rest:List zE):Prop:=
 ∀(i:Nat)(f:Fm)(cs:List Value)(w:World)(st:GSt)(F Z Zf:zD),rest=ds.drop i->i<=ds.length->zD7 c ds Zd D dcap B0 w st F Z Zf f cs->
  Calls prog 173 (c.args cs i) w (zFL c (.slice D ds.length dcap) w F Z (zz rest i f st))
section
variable {c:GV} {ds:List zE} {Zd:zD} {D:Option Addr} {dcap B0:Nat} {w:World} {st:GSt} {F Z Zf:zD} {f:Fm} {cs:List Value}
theorem zD7.kid(h:zD7 c ds Zd D dcap B0 w st F Z Zf f cs){i:List Value}{nm:ByteArray}{v:Int}(j:zA (c.kept F) w w6)(e:GrL c (.slice D ds.length dcap) w6 wr F Z st' kids vk F' Z')
  (g:Bw wr w7)(m:FmR (λb=>(Zf b/\b<w.heap.size)\/wr.heap.size<=b) w7 (zZ nm v f) i)(t:WSt st')(s:inn st'.all<=4000+ds.length):
  zD7 c ds Zd D dcap B0 w7 st' F' Z' (λb=>((Zf b/\b<w.heap.size)\/wr.heap.size<=b)/\b<w7.heap.size) (zZ nm v f) i:=by
 have o:=j.size;have u:=e.kept.size;have x:=g.size;have n:=e.mem.lt;have k:zA (c.kept F) w w7:=j.trans (e.kept.trans (.of_below g))
 refine⟨e.mem.below g,FmR.live _ _ m,λb a=>⟨?_,a.2⟩,(h.d.keep (k.mono λb _ a=>(h.offD b a).1)),λb a=>⟨zDY e.hF (h.offD b a).1 (h.offD b a).2 o,by have:=(h.offD b a).2;omega⟩,h.tab.on (h.belowB k),
  ⟨by have:=h.base.1;omega,λb a=> ?_,h.base.2.2⟩,zED f h.ok,Nat.le_trans (zHx f) h.size,t,s,h.dom⟩
 ·rcases a.1 with a|a
  ·exact zDY e.hF (h.offF b a.1).1 a.2 o
  exact⟨λq=>by have:=e.mem.mkr.liveF b q;omega,by have:=n.2.2;omega,by have:=n.2.1;omega⟩
 rcases e.hF b a with a|a
 ·exact h.base.2.1 b a
 have:=h.base.1;omega
theorem zTB(rest:List zE)(IH:zRz c ds Zd D dcap B0 rest)(i:Nat)(R:rest=ds.drop (i+1))(h:zD7 c ds Zd D dcap B0 w st F Z Zf f cs)(hc:¬(f.op=1\/f.op=2))(hi:i<ds.length)(hs:(st.full||decide (4000<st.all.length))=false)(cj:kvI st.done (zCc i f)=none):
  Calls prog 173 (c.args cs i) w (zFL c (.slice D ds.length dcap) w F Z (zLS rest i f st ds[i])):=by
 simp only[Bool.or_eq_false_iff]at hs;obtain⟨cg,de⟩:=hs;have j:=hid h;have c0:=hid cj;have bd:=hid (show(⟨st.all,st.done,false⟩:GSt)=st from by rw[<-cg]);have HS:=hid (λ(o:Obj)=>(h.mem.setFull false).below (zG _ o));have HK:=hid (λ(o:Obj)=> @zKS c w F o (.bool false));have di:=zOF (i:=i) (f:=f) (by have:=zBf h.dom;omega) (by have:=zHA f (zF2 f h.ok) (FmR.fitF _ _ h.fm);have:=h.size;omega);obtain⟨A,I,rfl⟩:=FmR.form h.fm;obtain⟨AA,dn,a0,c8⟩:=h.mem.mkr.all_cell;have m0:=h.mem.mv.cell;have bq:=h.mem.mv.lt;have f0:=h.mem.fv.cell;have dc:=h.mem.fv.free;have bf:=h.mem.fv.lt;have du:=zBf h.dom;have e1:(f.op==(1:Int))=false:=by simp;omega
 have e2:(f.op==(2:Int))=false:=by simp;omega
 have e3:decide ((4000:Int)<(st.all.length:Int))=false:=by simp at de⊢;omega
 have e4:((i:Int)==(ds.length:Int))=false:=by simp;omega
 rw[cg]at f0;clear h hc cj;unfold GV.args;go_enter func173,ntmps173
 go_upto_region 4 with(fail)
 have hg:=HS (.cells #[.int .i64 f.op,.string f.name,.int .i64 f.cmp,.int .i64 f.num,.slice A f.kids.length I] 52);have hk:=HK (.cells #[.int .i64 f.op,.string f.name,.int .i64 f.cmp,.int .i64 f.num,.slice A f.kids.length I] 52);have HG:=hid (And.intro hg hk);have s:=Blk.new' (w.setCell ⟨c.Fv,0,none⟩ (.bool false)) 52 #[.int .i64 f.op,.string f.name,.int .i64 f.cmp,.int .i64 f.num,.slice A f.kids.length I] (n:=w.heap.size) (by simp[World.setCell]);clear m0 bq f0 dc bf a0 c8 HS HK;have d0:=hg.dv.cell;have ar:=hg.dv.lt;have f0:=hg.fv.cell;have bf:=hg.fv.lt;have dm:w.heap.size<((w.setCell ⟨c.Fv,0,none⟩ (.bool false)).alloc (.cells #[.int .i64 f.op,.string f.name,.int .i64 f.cmp,.int .i64 f.num,.slice A f.kids.length I] 52)).heap.size :=by simp[World.setCell]
 generalize ((w.setCell ⟨c.Fv,0,none⟩ (.bool false)).alloc _)=W1 at*;have cv:=hid s;have b0:=s.at0;have b1:=s.at1;have b2:=s.at2;have b3:=s.at3;have b4:=s.at4;clear hg hk s;go_wp2_with fail
 refine(j.spell HG.2).mono ?_;rintro e w3 ⟨rfl,b5,bk⟩;have a3:zA (c.kept F) w w3:=HG.2.trans (.of_below bk);have ao:zBr W1.heap.size w3:=((j.tab.on (j.belowB a3)).mono (by have:=j.base.1;omega));have HI:=hid (zGh (B:=W1.heap.size) (i:Int) w3 (by constructor<;>omega) ao);have ba:=hid (And.intro b5 bk)
 have dp:∀W,(Op.stringOp .add ⟨(Lib.itoa (i:Int)).toArray⟩ ⟨(zBN f).toArray⟩).run prog W= .ok (.string ⟨(zCc i f).toArray⟩) W:=λW=>by
  rw[<-zMd];refine run_string_add_sum W _ _ ?_;have h1:=di;unfold zCc at h1;rw[List.length_append]at h1;simp only[ByteArray.size,List.size_toArray];omega
 clear b0 b1 b2 b3 b4 d0 ar f0 bf a3 ao b5 bk;go_wp2_with fail
 refine HI.mono ?_;rintro e w4 ⟨rfl,au⟩;have az:=hid (Tryz.Builder_String_any_f W1.heap.size W1.heap.size (zBN f) w4 (zJI ba.1 au) (by have:=ba.2.size;have:=au.size;omega));have cu:=hid (zC ba.2 au);clear au;go_wp2_with fail
 refine az.mono ?_;rintro e w5 ⟨rfl,-,b9⟩;have J:Bw W1 w5:=cu.trans b9;have O:=HG.1.below J;have dt:=hid J;have t:=cv.below J dm;have n0:=O.nv.cell;have br:=O.nv.lt;have hl:=Tryz.lookK O.done (zCc i f);simp only[c0.out,Option.isSome_none]at hl;have u:zA (c.kept F) w w5:=HG.2.trans (.of_below J);obtain⟨D',da,he,-,-,b8⟩:=j.d.open_;injection he with he1 he2 he3;subst he1 he3;clear he2;obtain⟨H,a,rfl,ch,ce,x0,x1,x2,x3,ae⟩:=b8 i hi;have HZ:=hid (j.offD H ch);have bm:zCY ds[i]=true:=zE8 j.dom (List.getElem_mem hi);replace x0:=u.cell (p:=⟨H,a+i*4,none⟩) HZ.1 x0;replace x1:=u.cell (p:=⟨H,a+i*4+1,none⟩) HZ.1 x1;replace x2:=u.cell (p:=⟨H,a+i*4+2,none⟩) HZ.1 x2;replace x3:=u.cell (p:=⟨H,a+i*4+3,none⟩) HZ.1 x3;have aq:=lt_of_cell x0;have b0:=t.at0;have b1:=t.at1;have b2:=t.at2;have b3:=t.at3;have b4:=t.at4;have bx:=t.lt;have d0:=O.dv.cell;have ar:=O.dv.lt;have dx:((i:Nat):Int)<(ds.length:Int):=by omega
 have dw:(0:Int)<=((i:Nat):Int):=by omega
 have ay:=hid (λ(W:World)(hW:Bw w5 W)=>zQ5 (λb=>Zf b/\b<w.heap.size) f ds[i] _ W
  (FmR.keep (.of_below hW) _ _ (FmR.keep (u.mono λb _ g=>(j.offF b g.1).1) _ _ (FmR.live _ _ j.fm))) (λb g=>by have:=u.size;have:=hW.size;omega) (by have:=j.size;omega)
  (λn hn=>zJM f j.ok n hn) ae (zDE bm).2.1)
 have HX:=hid (And.intro ae bm);have X:=hid (And.intro O (And.intro u t));generalize ct:ds[i]=x at*;have c7:=hid ct;clear ct b9 J t O u az HI ae bm b8 ch ce;go_wp2
 go_region_held3(λw'=>w'.cell? ⟨w.heap.size,0,none⟩=some (.int .i64 f.op)/\w'.cell? ⟨w.heap.size,1,none⟩=some (.string f.name)/\w'.cell? ⟨w.heap.size,2,none⟩=some (.int .i64 f.cmp)/\w'.cell? ⟨w.heap.size,3,none⟩=some (.int .i64 f.num)/\w'.cell? ⟨w.heap.size,4,none⟩=some (.slice A f.kids.length I)/\w'.cell? ⟨c.Dv,0,none⟩=some (.slice (some ⟨H,a,none⟩) ds.length dcap)/\w'.cell? ⟨H,a+i*4,none⟩=some (.string x.name)/\w'.cell? ⟨H,a+i*4+1,none⟩=some (.int .i64 x.kind)/\w'.cell? ⟨H,a+i*4+2,none⟩=some (.int .i64 x.lo)/\w'.cell? ⟨H,a+i*4+3,none⟩=some (.int .i64 x.hi))
  (first|exact⟨p0,p1,p2,p3,p4,p5,p6,p7,p8,p9⟩|(refine⟨?_,?_,?_,?_,?_,?_,?_,?_,?_,?_⟩<;>go_keep))
  (first
   |(go_at_call 177;refine(ay _ (Below.refl _ _).drew).mono ?_;rintro e w6 ⟨v6,rfl,al,G⟩;have y:=X.2.2.drew.below G bx;have p0:w6.cell? ⟨w.heap.size,0,none⟩=some (.int .i64 f.op):=y.cell 0;have p1:w6.cell? ⟨w.heap.size,1,none⟩=some (.string f.name):=y.cell 1;have p2:w6.cell? ⟨w.heap.size,2,none⟩=some (.int .i64 f.cmp):=y.cell 2;have p3:w6.cell? ⟨w.heap.size,3,none⟩=some (.int .i64 f.num):=y.cell 3;have p4:w6.cell? ⟨w.heap.size,4,none⟩=some (.slice A f.kids.length I):=y.cell 4;have p5:=brd G d0 ar;have p6:=brd G x0 aq;have p7:=brd G x1 aq;have p8:=brd G x2 aq;have p9:=brd G x3 aq))
 obtain⟨A6,bz,rfl,-,-,-⟩:=Row.of_own al (by decide);have V:∀Z0,zA Z0 w5 w6:=λZ0=>((zA.refl Z0 w5).drew).trans (.of_below G)
 have bn:=X.1.keep (V _);rw[bd.out]at bn;have ai:zA (c.kept F) w w6:=X.2.1.trans (V _);have a1:=zHz f x
 have af:∀v∈zR f x,I64 v:=λv hv=>by
  have g:=zDE HX.2;unfold zR at hv;rcases List.mem_cons.1 hv with rfl|hv
  ·constructor<;>omega
  have:=zBZ a1 v hv;constructor<;>omega
 have dk:(zR f x).length <=500:=by
  have h1:=zOj f x;have h2:=zNm x.name f;have h3:=j.size;omega
 have aj:=(zO.of_own al af (by omega)).live;have bv:=hid aj;have cx:=hid (FmR.keep (ai.mono λb _ g=>(j.offF b g.1).1) _ _ (FmR.live _ _ j.fm));have ap:w.heap.size<=w5.heap.size:=X.2.1.size;have ea:w5.heap.size<=w6.heap.size:=G.size;have z:=hid (λb(g:w.heap.size<=b)=>(show c.kept F b from⟨λhf=>by have:=j.mem.mkr.liveF b hf;omega,by have:=j.mem.lt.2.2;omega,by have:=j.mem.lt.2.1;omega⟩));have ab:=hid (And.intro bn (And.intro ai (X.2.2.keep (V (λ_=>True)) trivial)));have bi:w6.cell? ⟨H,a+i*4,none⟩=some (.string x.name):=p6;have c6:=hid bi;have cd:=lt_of_cell bi;have df:=y.lt;clear p0 p1 p2 p3 p4 p5 p6 p7 p8 p9 b0 b1 b2 b3 b4 bx d0 ar x0 x1 x2 x3 aq hl n0 br y bn ai a1 af aj bi V X ay G;go_wp2;go_loopw[15,77] (λvv ix wr=>∃(k:Nat)(vk:Value)(F' Z':zD),k<=(zR f x).length /\ix= .int .i64 k/\vk=vv/\GrL c (.slice (some ⟨H,a,none⟩) ds.length dcap) w6 wr F Z (zW (gF rest i f x) ((zR f x).take k) st).2 (zW (gF rest i f x) ((zR f x).take k) st).1 vk F' Z') (λ_ ix _=>(zR f x).length -(intOf ix).toNat);case atStart=>exact⟨0,_,F,Z,Nat.zero_le _,rfl,rfl,GrL.start ab.1⟩
 case round=>
  obtain⟨k,vk,F',Z',hk,rfl,rfl,m⟩:=hrel;by_cases aw:k<(zR f x).length
  ·obtain⟨vb,a9,rfl,cr,-,cp⟩:=bv.at_ aw;(have dh:=λb(h1:w.heap.size<=b)(h2:b<w6.heap.size)=>(zDY m.hF (z b h1) h2 (Nat.le_refl _):c.kept F' b));have cq:wr.cell? ⟨vb,a9+k,none⟩=some (.int .i64 (zR f x)[k]):=m.kept.cell (p:=⟨vb,a9+k,none⟩) (z vb (Nat.le_trans ap cr.1)) cp;have d8:=lt_of_cell cq;obtain⟨AK,C,dl,-,-,-⟩:=Row.of_own m.own (by decide);have dq:=m.own;have dg:=m.kept.size;have HL:=hid m
   have E:=hid (λ(W:World)(hW:zA (λb=>c.kept F' b/\vk.ownBlock≠some b) wr W)=>(show W.cell? ⟨c.Gv,0,none⟩=some (.func (.func 173) #[] #[.pointer (some ⟨c.Mv,0,none⟩),.pointer (some ⟨c.Fv,0,none⟩),.pointer (some ⟨c.Dv,0,none⟩),.pointer (some ⟨c.Nv,0,none⟩),.pointer (some ⟨c.Gv,0,none⟩)])/\
     W.cell? ⟨w.heap.size,0,none⟩=some (.int .i64 f.op)/\W.cell? ⟨w.heap.size,1,none⟩=some (.string f.name)/\W.cell? ⟨w.heap.size,2,none⟩=some (.int .i64 f.cmp)/\W.cell? ⟨w.heap.size,3,none⟩=some (.int .i64 f.num)/\W.cell? ⟨w.heap.size,4,none⟩=some (.slice A f.kids.length I)/\
     W.cell? ⟨c.Dv,0,none⟩=some (.slice (some ⟨H,a,none⟩) ds.length dcap)/\W.cell? ⟨H,a+i*4,none⟩=some (.string x.name) from by
    (have a8:∀b,c.var b->(λb=>c.kept F' b/\vk.ownBlock≠some b) b:=λb g=>⟨m.mem.var b g,λe=>(m.row b e).2.2 g⟩);(have a7:∀b,c.kept F b->b<w6.heap.size->(λb=>c.kept F' b/\vk.ownBlock≠some b) b:=λb g aw=>⟨zDY m.hF g aw (Nat.le_refl _),λe=>by have:=(m.own.lt b e).1;omega⟩);have s:=(ab.2.2.keep m.kept (z _ (Nat.le_refl _))).keep hW (a7 _ (z _ (Nat.le_refl _)) (by omega))
    exact⟨(m.mem.gv.keep hW (a8 _ (Or.inr (Or.inr (Or.inr rfl))))).cell,s.cell 0,s.cell 1,s.cell 2,s.cell 3,s.cell 4,(m.mem.dv.keep hW (a8 _ (Or.inr (Or.inl rfl)))).cell,
     hW.cell (p:=⟨H,a+i*4,none⟩) (a7 H HZ.1 cd) (m.kept.cell (p:=⟨H,a+i*4,none⟩) HZ.1 c6)⟩))
   subst dl;have ci:(((zR f x).take (k+1)))=(zR f x).take k++[(zR f x)[k]]:=List.take_succ_eq_append_getElem aw;have cz:=hid (show zW (gF rest i f x) ((zR f x).take (k+1)) st=((zW (gF rest i f x) ((zR f x).take k) st).1++[(gF rest i f x (zR f x)[k] (zW (gF rest i f x) ((zR f x).take k) st).2).1],(gF rest i f x (zR f x)[k] (zW (gF rest i f x) ((zR f x).take k) st).2).2) from by rw[ci,zIK]);(have dy:(k:Int)<((zR f x).length :Int):=by omega);(have a4:(zW (gF rest i f x) ((zR f x).take k) st).1.length =k:=by rw[zC4,List.length_take];omega);have ax:=hid a4;have bw:=hid (zKs (f:=gF rest i f x) (B:=4000+rest.length) (λv st=>zGb rest _ _ st) (λv st hs=>zKt rest _ _ st hs) ((zR f x).take k) st j.wst);clear m cp ci dh cr a4;generalize (zW (gF rest i f x) ((zR f x).take k) st).1=kids at*;generalize (zW (gF rest i f x) ((zR f x).take k) st).2=st' at*;generalize (zR f x)[k]=v at*;go_wp2;refine zY 16 (λW=>zA (λb=>c.kept F' b/\(Value.slice AK kids.length C).ownBlock ≠some b) wr W) (by kernel_rfl) ?_;have hS:(λW=>zA (λb=>c.kept F' b/\(Value.slice AK kids.length C).ownBlock ≠some b) wr W) wr.drew:=(zA.refl _ _).drew
   (refine tkQ 0 hS ?_;simp only[nr])
   (refine tkS 1 ?_ hS ?_ ?_;rotate_left;intro w Q;obtain⟨h0,h1,h2,h3,h4,h5,h6,h7⟩:=E _ Q;go_simp;(try with_reducible rfl);simp only[nr])
   (refine tkS 2 ?_ hS ?_ ?_;rotate_left;intro w Q;obtain⟨h0,h1,h2,h3,h4,h5,h6,h7⟩:=E _ Q;go_simp;(try with_reducible rfl);simp only[nr])
   (refine tkQ 3 hS ?_;simp only[nr])
   (refine tkS 4 ?_ hS ?_ ?_;rotate_left;intro w Q;obtain⟨h0,h1,h2,h3,h4,h5,h6,h7⟩:=E _ Q;go_simp;(try with_reducible rfl);simp only[nr])
   (refine tkQ 5 hS ?_;simp only[nr])
   (refine tkQ 6 hS ?_;simp only[nr])
   (refine tkQ 7 hS ?_;simp only[nr])
   (refine tkS 8 ?_ hS ?_ ?_;rotate_left;intro w Q;obtain⟨h0,h1,h2,h3,h4,h5,h6,h7⟩:=E _ Q;go_simp;(try with_reducible rfl);simp only[nr])
   (refine tkQ 9 hS ?_;simp only[nr])
   (refine tkQ 11 hS ?_;simp only[nr])
   (refine tkQ 12 hS ?_;simp only[nr])
   refine wS1 10 (λK U=> ?_);(go_wp2_with fail);have a2:=HL.kept;refine(zM2 x.name v ds (zH f) f (Nat.le_refl _) (by have:=j.size;omega) (λb=>Zf b/\b<w.heap.size) _ wr.drew (FmR.keep ((a2.mono λb _ g=>(j.offF b g.1).1).drew) _ _ cx) j.ok).mono ?_;rintro e w7 ⟨c9,rfl,cc,ca⟩;have ad:Bw wr w7:=((Below.refl wr.heap.size wr).drew).trans ca;have b6:zA (λb=>c.kept F' b/\(Value.slice AK kids.length C).ownBlock ≠some b) wr w7:= .of_below ad;(have dj:rest.length=ds.length-(i+1):=by rw[R];simp);have bc:=hid (IH (i+1) _ c9 w7 st' F' Z' _ R (by omega) (j.kid (nm:=x.name) (v:=v) ab.2.1 HL ad cc bw.1 (by have h1:=bw.2.2;have h2:=j.len;omega)));have bb:=hid ad;refine U _ _ (Or.inr b6) ?_;clear U K ca a2 cc
   (try simp only[nr])
   refine wS1 13 (λK U=> ?_);(go_wp2_with fail);refine bc.mono ?_;intro e w8 L;have bh:zA (λb=>c.kept F' b/\(Value.slice AK kids.length C).ownBlock ≠some b) wr w8:=b6.trans (L.2.2.mono λb _ g=>g.1);have bp:w8.ownsRow w6.heap.size 3 1 (.slice AK kids.length C) kids.length (kids.map (.int .i64)):=zXL (zXL HL.own (zA.of_below (Z:=λ_=>True) bb) (λ_ _=>trivial)) L.2.2 (λk hk=>(HL.row k hk).1);have dr:w6.heap.size<=w8.heap.size:=Nat.le_trans dg (Nat.le_trans bb.size L.2.2.size);have bu:=hid L;obtain rfl:=L.1;refine U _ _ (Or.inr bh) ?_;clear U K L
   (try simp only[nr])
   have bt:=hid (show gF rest i f x v st'=zz rest (i+1) (zZ x.name v f) st' from rfl);rw[<-bt.out]at bu⊢;generalize gF rest i f x v st'=r at*;refine wS1 14 (λK U=> ?_);(go_wp2_with fail);refine U _ _ (Or.inr (bh.alloc _)) ?_;clear U K
   (try simp only[nr])
   refine wS1 15 (λK U=> ?_);refine zDR (.tmp 81) (.tmp 95) _ rfl underlying33 Tryz.eInt rfl (bp.alloc _) rfl (news:=[.int .i64 r.1]) rfl (one_cell (by simp)) (by simp[Value.oneCell']) (by have:=ax.out;unfold maxLen;omega) (by have:=ax.out;omega) (by simp;omega) ?_;intro v5 eb a6 ag ac;have bd:=hid (HL.step bb bu ag a6 ac);refine U _ _ (Or.inr ((bh.alloc _).grown ag (λk hk _ hz=>hz.2 hk))) ?_;clear U K ag a6 ac
   (try simp only[nr])
   refine wS1 16 (λK U=> ?_);(go_wp2_with fail);refine U _ _ (Or.inl rfl) ?_;clear U K
   (try simp only[nr])
   refine wSd ?_ _;go_wp2;go_roundw
   case rel=>
    obtain⟨F2,Z2,dd⟩:=bd.out;refine⟨k+1,_,F2,Z2,by omega,by go_num,rfl,?_⟩;rw[cz.out];exact dd
   case measure=>simp[intOf];omega
  obtain rfl:k=(zR f x).length :=by omega
  rw[List.take_length]at m;have ck:=zC4 (f:=gF rest i f x) (zR f x) st;have hW:=zKs (f:=gF rest i f x) (B:=4000+rest.length) (λv st=>zGb rest _ _ st) (λv st hs=>zKt rest _ _ st hs) (zR f x) st j.wst;have cn:(zW (gF rest i f x) (zR f x) st).1≠[]:=zIA (by simp[zR]);have bs:=hid (show zLS rest i f st ds[i]=((zAb (zW (gF rest i f x) (zR f x) st).2.all i (zR f x) (zW (gF rest i f x) (zR f x) st).1).1,⟨(zAb (zW (gF rest i f x) (zR f x) st).2.all i (zR f x) (zW (gF rest i f x) (zR f x) st).1).2,zCd (zW (gF rest i f x) (zR f x) st).2.done (zCc i f) (zAb (zW (gF rest i f x) (zR f x) st).2.all i (zR f x) (zW (gF rest i f x) (zR f x) st).1).1,(zW (gF rest i f x) (zR f x) st).2.full⟩) from by rw[c7.out];rfl);generalize (zW (gF rest i f x) (zR f x) st).1=kids at*;generalize (zW (gF rest i f x) (zR f x) st).2=st' at*;have dj:rest.length=ds.length-(i+1):=by rw[R];simp
  have b7:st'.all.length<=5000:=by
   have h1:=hW.1.tab.len;have h2:=hW.2.2;have h3:=j.len;omega
  have ak:∀q∈kids,I64 q:=λq hq=>by
   have:=hW.2.1 q hq;have h1:=this.1;have h2:=this.2;constructor<;>omega
  have av:zA (c.kept F) w wr:=ab.2.1.trans m.kept;have dz:=m.kept.size
  have T:=hid (zML c.M st'.all F' Z' (λb=>(w.heap.size<=b/\b<w6.heap.size)\/vk.ownBlock=some b) (i:Int) (.slice A6 (zR f x).length bz) vk (zR f x) kids wr m.mem.mkr
   ((bv.keep (m.kept.mono λb _ g=>z b (Nat.le_trans ap g.1))).mono λb g=>Or.inl ⟨Nat.le_trans ap g.1,g.2⟩) ((zHr m.own ak (by omega)).mono λb g=>Or.inr g)
   (λb g=>by
    rcases g with g|g
    ·exact(zDY m.hF (z b g.1) g.2 (Nat.le_refl _)).1
    exact(m.row b g).1.1)
   (by constructor<;>omega) ck.symm cn (by omega) (by omega) ((j.tab.on (j.belowB av)).mono (by have:=j.base.1;have:=av.size;omega)))
  obtain⟨AK,C,rfl,-,-,-⟩:=Row.of_own m.own (by decide);have m0:=m.mem.mv.cell;have bq:=m.mem.mv.lt;have HL:=hid m;have Y:=hid av;clear m ck hW cn ak av b7;generalize zAb st'.all i (zR f x) kids=o at*;go_wp2_with fail
  refine T.mono ?_;intro e w8 L;obtain⟨rfl,⟨F2,Z2,cl,bg,bj⟩,bo⟩:=L;have ah:=GrW.made HL.mem (Below.refl _ _) cl bg bj bo;have n0:=ah.nv.cell;have br:=ah.nv.lt;have cy:=hid ah;have cw:=hid ah.done;have N:=hid (And.intro bo (And.intro bg bj));clear ah cl bg bj bo T m0 bq;go_wp2_with(at_mapUpdate;refine zA6 rfl (.tmp 103) (.tmp 104) _ rfl (zAK (P:=prog) (k:=9) underlying9) (e:=3) underlying142 rfl (cw) ⟨(zCc i f).toArray⟩ rfl ?_;intro w9 cm aa co cb cf);have a5:zS encS w9 c.db (kvG (zCd st'.done (zCc i f) o.1)):=by rw[<-zPY];exact cm
  have HE:=hid (show zFL c (.slice (some ⟨H,a,none⟩) ds.length dcap) w F Z (zLS rest i f st ds[i]) (.returned (.int .i64 o.1)) w9 from by
   rw[bs.out];have d5:=N.1.size;have h6:=ab.2.1.size;refine⟨rfl,⟨F2,Z2,cy.setDone a5 aa,λb g=> ?_,λb g=> ?_⟩,⟨aa.os.trans (N.1.os.trans Y.os),aa.tape.trans (N.1.tape.trans Y.tape),aa.output.trans (N.1.output.trans Y.output),by have:=Y.size;omega,λk hk hz=> ?_⟩⟩
   ·rcases N.2.1 b g with g|g
    ·rcases HL.hF b g with g|g
     ·exact Or.inl g
     exact Or.inr (by omega)
    exact Or.inr (by omega)
   ·rcases N.2.2 b g with g|g
    ·rcases HL.hZ b g with g|g
     ·exact Or.inl g
     exact Or.inr (by omega)
    exact Or.inr (by omega)
   have d7:=Y.size
   rw[aa.block k (by omega) hz.2.1,N.1.block k (by omega) (zDY HL.hF hz hk (by omega)).1,Y.block k hk hz])
  clear cm a5 aa co cb cf n0 br;go_wp2;go_ret;exact HE.out
theorem zTC:∀rest:List zE,zRz c ds Zd D dcap B0 rest:=by
 intro rest
 induction rest with
 |nil=>
  intro i f cs w st F Z Zf g n h
  have o:i=ds.length:=by
   have:=congrArg List.length g;simp at this;omega
  by_cases a:f.op=1\/f.op=2
  ·(have e:zz [] i f st=zBw (decide (f.op=1)) st.full st:=by unfold zz;rw[if_pos a]);rw[e];exact zMb i h a
  have e:zz [] i f st=zBw false (st.full||decide (4000<st.all.length)) st:=by unfold zz;rw[if_neg a]
  rw[e];exact zMc i h a n (Or.inr o)
 |cons x rest ih=>
 intro i f cs w st F Z Zf g n h
 have b:i<ds.length:=by
  have:=congrArg List.length g;simp at this;omega
 have m:ds.drop i=ds[i]::ds.drop (i+1):=List.drop_eq_getElem_cons b;rw[m]at g;injection g with hx hrest;by_cases a:f.op=1\/f.op=2
 ·have e:zz (x::rest) i f st=zBw (decide (f.op=1)) st.full st:=by unfold zz;rw[if_pos a]
  rw[e];exact zMb i h a
 by_cases d:(st.full||decide (4000<st.all.length))=true
 ·have e:zz (x::rest) i f st=zBw false (st.full||decide (4000<st.all.length)) st:=by unfold zz;rw[if_neg a,if_pos d,d]
  rw[e];exact zMc i h a n (Or.inl d)
 cases j:kvI st.done (zCc i f)with
 |some k=>
  have e:zz (x::rest) i f st=(k,st):=by unfold zz;rw[if_neg a,if_neg d];simp only[j]
  rw[e];exact zQh i h a b (by simpa using d) j
 |none=>
 have e:zz (x::rest) i f st=zLS rest i f st ds[i]:=by rw[<-hx];unfold zz;rw[if_neg a,if_neg d];simp only[j];rfl
 rw[e];exact zTB rest ih i hrest h a b (by simpa using d) j
end
end
section
open Go.Shelf
theorem zS.len{P:Program}{κ:Type}{enc:κ->Value}{c:List (κ × Value)}{t k e:TypeId}(h:zS enc w b c)(j:P.underlying t=some (.map k e))(ty:TypeId):(Builtin.len_ #[t] ty #[.map (some b)]).run P w= .ok (.int .i64 (c.length:Nat)) w:=by
 obtain⟨f,a,g,i⟩:=h;have d:f.size=c.length:=by have:=congrArg List.length i;simpa using this
 rw[<-d];simp[Builtin.len_,run_underlying j,MapKept.run_getObj_map g,goInt,Result.andThen]
theorem zLT(x:ByteArray)(v:Value):∀l:List (ByteArray × Value),(zAq l x v).map (·.1)=if(l.map (·.1)).any (λk=>decide (k=x))=true then l.map (·.1)else l.map (·.1)++[x]
 |[]=>by simp[zAq]
 |p::r=>by
  have ih:=zLT x v r;unfold zAq;rw[List.map_cons,List.any_cons];by_cases h:x=p.1
  ·rw[if_pos h,if_pos (by simp[h])];rfl
  rw[if_neg h,List.map_cons,ih,decide_eq_false (show ¬p.1=x from λe=>h e.symm),Bool.false_or];split<;>rfl
theorem zJN:∀(l:List ByteArray)(a:List (ByteArray × Value)),(zCF a l).map (·.1)=l.foldl (λks n=>if ks.any (λk=>decide (k=n))=true then ks else ks++[n]) (a.map (·.1))
 |[],_=>rfl
 |n::l,a=>by
  unfold zCF;rw[List.foldl_cons,List.foldl_cons,<-zLT n (.bool true) a];exact zJN l _
theorem zLq(f:Fm):(zCF [] (zAf f)).length =zDi f:=by
 have:=congrArg List.length (zJN (zAf f) []);rw[List.length_map]at this;rw[this];rfl
def bMk:Obj:= .cells #[.slice none 0 0,.map none] 177
def bMv(n:Nat):Obj:= .cells #[.pointer (some ⟨n,0,none⟩)] 173
def bNv(n:Nat):Obj:= .cells #[.map (some (n+1+1))] 142
def bFv:Obj:= .cells #[.bool false] 4
def GV.of(n d:Nat):GV:=⟨n+1,n+1+1+1+1,d,n+1+1+1,n+1+1+1+1+1,n,n+1+1⟩
def bGv(n d:Nat):Obj:= .cells #[(GV.of n d).fn] 150
def zGi(w:World)(d:Nat):World:=(((((w.alloc bMk).alloc (bMv w.heap.size)).alloc (.map #[] 0)).alloc (bNv w.heap.size)).alloc bFv).alloc (bGv w.heap.size d)
theorem zOw(w:World)(d:Nat):(zGi w d).heap.size =w.heap.size+6:=by unfold zGi;simp
theorem zJO(w:World)(d:Nat):Bw w (zGi w d):=
 (((((zG w _).alloc (by simp) _).alloc (by simp;omega) _).alloc (by simp;omega) _).alloc (by simp;omega) _).alloc (by simp;omega) _
theorem zSA{d:Nat}(f:One w d vd):GrW (GV.of w.heap.size d) vd (zGi w d) ⟨[],[],false⟩ (λb=>b=w.heap.size) (λ_=>False):=by
 have c:=f.lt;have a:=zJO w d
 refine⟨⟨_,((((Blk.new' (w.alloc bMk) 173 #[.pointer (some ⟨w.heap.size,0,none⟩)] (n:=w.heap.size+1) (by simp)).alloc _).alloc _).alloc _).alloc _⟩,f.below a c,
  ⟨_,(((Blk.new' (((w.alloc bMk).alloc (bMv w.heap.size)).alloc (.map #[] 0)) 142 #[.map (some (w.heap.size+1+1))] (n:=w.heap.size+1+1+1) (by simp)).alloc _).alloc _)⟩,
  ⟨_,Blk.new' (((((w.alloc bMk).alloc (bMv w.heap.size)).alloc (.map #[] 0)).alloc (bNv w.heap.size)).alloc bFv) _ #[(GV.of w.heap.size d).fn] (n:=w.heap.size+1+1+1+1+1) (by simp)⟩,
  ⟨_,(Blk.new' ((((w.alloc bMk).alloc (bMv w.heap.size)).alloc (.map #[] 0)).alloc (bNv w.heap.size)) 4 #[.bool false] (n:=w.heap.size+1+1+1+1) (by simp)).alloc _⟩,?_,?_,?_,?_,?_,?_,?_,?_⟩
 ·exact(MkS.new w).below (w':=zGi w d) (((((zG (w.alloc bMk) _).alloc (by simp) _).alloc (by simp) _).alloc (by simp) _).alloc (by simp) _)
 ·have g:=((zS.made ((w.alloc bMk).alloc (bMv w.heap.size)) encS).alloc (bNv w.heap.size)).alloc bFv |>.alloc (bGv w.heap.size d)
  have e:((w.alloc bMk).alloc (bMv w.heap.size)).heap.size =w.heap.size+1+1:=by simp
  rw[e]at g;exact g
 ·intro b a;refine⟨λe=> ?_,?_,?_⟩
  ·subst e;rcases a with a|a|a|a<;>(unfold GV.of at a;simp only at a;omega)
  ·show b≠w.heap.size+1+1;rcases a with a|a|a|a<;>(unfold GV.of at a;simp only at a;omega)
  show b≠w.heap.size+1+1+1+1;rcases a with a|a|a|a<;>(unfold GV.of at a;simp only at a;omega)
 ·show ¬(w.heap.size+1+1+1+1=w.heap.size);omega
 ·show ¬(w.heap.size+1+1=w.heap.size);omega
 ·show w.heap.size+1+1+1+1≠w.heap.size+1+1;omega
 ·exact λh=>h
 exact λh=>h
theorem zEp(Z:zD)(w:World):zK Z w (.slice none 0 0) []:=⟨none,0,rfl,Nat.le_refl _,by omega,by simp,trivial⟩
theorem zMe(Zf Zd:zD)(vd:Value)(f:Fm)(cs:List Value)(ds:List zE)(w:World)(hf:FmR Zf w f cs)(b2:∀b,Zf b->b<w.heap.size)(hd:Facts Zd w vd ds)(bs:∀b,Zd b->b<w.heap.size)
  (b0:zH f<=4000000)(bp:zBr w.heap.size w):
  Calls prog 125 #[.agg cs.toArray,.agg #[vd]] w (zKI (λ_=>False) (zBp ds f) w):=by
 have eg:=Tryz.egBuild1;have b9:= @run_makeMap prog;have HF:=hid hf;have HD:=hid hd;obtain⟨A,O,rfl⟩:=FmR.form hf;obtain⟨D,dcap,rfl,-,-,-⟩:=hd.open_
 have HU:=hid (show zBp ds f=(if zT ds=false\/zBY ds f≠0 then([],1)else if 24<zDi f then([],2)else
  if(zz ds 0 (zZ ⟨#[]⟩ 0 f) ⟨[],[],false⟩).2.full =true then([],2)else if 4000<(zAr ds (zz ds 0 (zZ ⟨#[]⟩ 0 f) ⟨[],[],false⟩).2.all (zz ds 0 (zZ ⟨#[]⟩ 0 f) ⟨[],[],false⟩).1).length then([],2)
  else(zAr ds (zz ds 0 (zZ ⟨#[]⟩ 0 f) ⟨[],[],false⟩).2.all (zz ds 0 (zZ ⟨#[]⟩ 0 f) ⟨[],[],false⟩).1,0)) from rfl)
 have a:=((Blk.new w 52 #[.int .i64 f.op,.string f.name,.int .i64 f.cmp,.int .i64 f.num,.slice A f.kids.length O]).alloc (.cells #[.slice D ds.length dcap] 25)).alloc (.cells #[.slice none 0 0] 74);have j:=(Blk.new' (w.alloc (.cells #[.int .i64 f.op,.string f.name,.int .i64 f.cmp,.int .i64 f.num,.slice A f.kids.length O] 52)) 25 #[.slice D ds.length dcap] (n:=w.heap.size+1) (by simp)).alloc (.cells #[.slice none 0 0] 74);have c:=Blk.new' ((w.alloc (.cells #[.int .i64 f.op,.string f.name,.int .i64 f.cmp,.int .i64 f.num,.slice A f.kids.length O] 52)).alloc (.cells #[.slice D ds.length dcap] 25)) 74 #[.slice none 0 0] (n:=w.heap.size+1+1) (by simp);have a2:=((zG w (.cells #[.int .i64 f.op,.string f.name,.int .i64 f.cmp,.int .i64 f.num,.slice A f.kids.length O] 52)).alloc (by simp) (.cells #[.slice D ds.length dcap] 25)).alloc (by simp;omega) (.cells #[.slice none 0 0] 74);have HV:=hid (zDF Zd (.slice D ds.length dcap) ds _ (hd.keep (.of_below a2)));have HB:=hid (And.intro a (And.intro j (And.intro c a2)));clear a j c a2 hf hd;go_enter func125,ntmps125
 go_wp2_with fail
 refine HV.mono ?_;rintro e w1 ⟨rfl,aa⟩;have a:=HB.1.below aa HB.1.lt;have j:=HB.2.1.below aa HB.2.1.lt;have c:=HB.2.2.1.below aa HB.2.2.1.lt;have d:=HB.2.2.2.trans (aa.mono HB.2.2.2.size);clear aa HB HV;by_cases hv:zT ds=true
 ·have ak:=hid hv;rw[hv]
  have HC:=hid (zIo (λb=>(Zf b\/Zd b)) (.slice D ds.length dcap) ds f _ w1 (FmR.mono (λb g=>Or.inl g) _ _ (FmR.keep (.of_below d) _ _ HF)) ((HD.keep (.of_below d)).mono λb g=>Or.inr g) (by omega) (λb g=>by
   have:=d.size;rcases g with g|g
   ·have:=b2 b g;omega
   have:=bs b g;omega))
  have f0:=a.at0;have f1:=a.at1;have f2:=a.at2;have f3:=a.at3;have f4:=a.at4;have fl:=a.lt;have d0:=j.at0;have dl:=j.lt;have F:=hid (And.intro a (And.intro j (And.intro c d)));clear hv a j c d;go_wp2_with fail
  refine HC.mono ?_;rintro e w2 ⟨rfl,ac⟩;have a:=F.1.below ac F.1.lt;have j:=F.2.1.below ac F.2.1.lt;have c:=F.2.2.1.below ac F.2.2.1.lt;have d:=F.2.2.2.trans (ac.mono F.2.2.2.size);clear f0 f1 f2 f3 f4 fl d0 dl ac F HC;by_cases G:zBY ds f=0
  ·have a9:=hid G;(have e1:(zBY ds f !=(0:Int))=false:=by simp[G]);have ai:=hid (HU.trans (if_neg (by rintro(h|h);rw[ak.out]at h;cases h;exact h G)));have bb:=hid (λ(W:World) hW hm=>zQ7 w2.heap.size (λb=>Zf b/\b<w.heap.size) (λh=>by have:=h.2;have:=d.size;omega) (zH f) f (Nat.le_refl _) [.int .i64 f.op,.string f.name,.int .i64 f.cmp,.int .i64 f.num,.slice A f.kids.length O] [] W hW b0 hm);have aw:=FmR.keep (.of_below d) _ _ (FmR.live _ _ HF);have a1:=hid (And.intro (FmR.keep ((zA.refl _ _).alloc (.map #[] 0)) _ _ aw) (zS.made w2 encS));have f0:=a.at0;have f1:=a.at1;have f2:=a.at2;have f3:=a.at3;have f4:=a.at4;have fl:=a.lt;have u:=hid (And.intro a (And.intro j (And.intro c d)));clear G a j c d aw HU;(go_wp2_with fail);refine(bb _ a1.1 a1.2).mono ?_;rintro e s ⟨rfl,bo,ag⟩;(have bn:=λty=>bo.len (P:=prog) (t:=95) (k:=9) (e:=4) underlying95 ty);rw[zLq]at bn;have bq:=u.1.lt;have b1:=u.2.1.lt;have br:=u.2.2.1.lt;have a:=(u.1.alloc (.map #[] 0)).keep ag (by show w.heap.size≠_;omega);have j:=(u.2.1.alloc (.map #[] 0)).keep ag (by show w.heap.size+1≠_;omega);have c:=(u.2.2.1.alloc (.map #[] 0)).keep ag (by show w.heap.size+1+1≠_;omega);have d:Bw w s:=zAG (u.2.2.2.alloc u.2.2.2.size _) ag u.2.2.2.size (by have:=u.2.2.2.size;simp;omega);clear f0 f1 f2 f3 f4 fl bo ag u a1 bb;by_cases ht:24<zDi f
   ·have HR:=hid (ai.trans (if_pos ht));(have e2:decide ((24:Int)<(zDi f:Int))=true:=by simp;omega);(have bx:decide (24<zDi f)=true:=by simp;omega);have r0:=c.cell 0;have rf:=c.frozen 0;have rl:=c.lt;have V:=hid (And.intro c d);clear ht a j c d ai;go_wp2;have r1:=(V.1.set_ 0 (.slice none 0 0)).cell 0;refine bodyPost_ret (v:= .tuple #[.agg #[.slice none 0 0],.int .i64 2]) (by simp[results,results125,go_sem,r1]) rfl ?_;rw[HR.out];exact⟨_,rfl,zEp _ _,V.2.setCell (p:=⟨w.heap.size+1+1,0,none⟩) (by show w.heap.size<=w.heap.size+1+1;omega) _⟩
   have aj:=hid (ai.trans (if_neg ht));(have e2:decide ((24:Int)<(zDi f:Int))=false:=by simp;omega);(have bx:decide (24<zDi f)=false:=by simp;omega);have X:=hid (And.intro a (And.intro j (And.intro c d)));have bq:=a.lt;have b1:=j.lt;have br:=c.lt;clear ht a j c d ai;go_wp2;change Code.wp prog _ _ _ (zGi s (w.heap.size+1));have b6:=zOw s (w.heap.size+1);have al:=zJO s (w.heap.size+1);have a3:=zSA (vd:= .slice D ds.length dcap) ⟨_,X.2.1⟩;generalize zGi s (w.heap.size+1)=J at*;have ar:=X.1.below al bq;have au:=X.2.2.1.below al br;have az:=X.2.2.2.size;have z:=X.2.2.2.trans (al.mono az);have a0:=hid (And.intro a3 (And.intro au z))
   have T:=hid (λ(W:World)(hW:zA (λb=>b=s.heap.size+1+1+1+1+1\/b=w.heap.size) J W)=>(show W.cell? ⟨s.heap.size+1+1+1+1+1,0,none⟩=some (.func (.func 173) #[] #[.pointer (some ⟨s.heap.size+1,0,none⟩),.pointer (some ⟨s.heap.size+1+1+1+1,0,none⟩),.pointer (some ⟨w.heap.size+1,0,none⟩),.pointer (some ⟨s.heap.size+1+1+1,0,none⟩),.pointer (some ⟨s.heap.size+1+1+1+1+1,0,none⟩)])/\
    W.cell? ⟨w.heap.size,0,none⟩=some (.int .i64 f.op)/\W.cell? ⟨w.heap.size,1,none⟩=some (.string f.name)/\W.cell? ⟨w.heap.size,2,none⟩=some (.int .i64 f.cmp)/\W.cell? ⟨w.heap.size,3,none⟩=some (.int .i64 f.num)/\W.cell? ⟨w.heap.size,4,none⟩=some (.slice A f.kids.length O) from by
     have af:=ar.keep hW (Or.inr rfl)
     exact⟨(a3.gv.keep hW (Or.inl rfl)).cell,af.cell 0,af.cell 1,af.cell 2,af.cell 3,af.cell 4⟩))
   clear a3 ar au z al bn;refine zY 4 (λW=>zA (λb=>b=s.heap.size+1+1+1+1+1\/b=w.heap.size) J W) (by kernel_rfl) ?_;have hS:(λW=>zA (λb=>b=s.heap.size+1+1+1+1+1\/b=w.heap.size) J W) J.drew:=(zA.refl _ _).drew
   (refine tkS 0 ?_ hS ?_ ?_;rotate_left;intro w a4;obtain⟨h0,h1,h2,h3,h4,h5⟩:=T _ a4;go_simp;(try with_reducible rfl);simp only[nr])
   (refine tkS 1 ?_ hS ?_ ?_;rotate_left;intro w a4;obtain⟨h0,h1,h2,h3,h4,h5⟩:=T _ a4;go_simp;(try with_reducible rfl);simp only[nr])
   refine wS1 2 (λK hK=> ?_);(go_wp2_with fail);have L:=zHO a9.out
   have bh:zH f<=200:=by
    have h1:=a9.out;unfold zBY at h1;split at h1
    ·omega
    rename_i hl;unfold zDl at hl;simp at hl;omega
   have z:=a0.2.2;(have bk:∀Z0,zA Z0 J J.drew:=λZ0=>(zA.refl _ _).drew);refine(zM2 ⟨#[]⟩ 0 ds (zH f) f (Nat.le_refl _) (by omega) (λb=>Zf b/\b<w.heap.size) _ J.drew (FmR.keep ((zA.of_below_lt z (λb _ g=>g.2)).trans (bk _)) _ _ (FmR.live _ _ HF)) L.2).mono ?_;rintro e Q ⟨bd,rfl,av,aq⟩;have o:Bw J Q:=((Below.refl J.heap.size J).drew).trans aq;have b5:=o.size;have q:Bw w Q:=z.trans (o.mono z.size)
   have bw:=hid (show zD7 (GV.of s.heap.size (w.heap.size+1)) ds (λb=>Zd b/\b<w.heap.size) D dcap w.heap.size Q ⟨[],[],false⟩ (λb=>b=s.heap.size) (λ_=>False) (λb=>((Zf b/\b<w.heap.size)\/J.heap.size<=b)/\b<Q.heap.size) (zZ ⟨#[]⟩ 0 f) bd from by
    have bm:∀b,b<w.heap.size\/J.heap.size<=b->(GV.of s.heap.size (w.heap.size+1)).kept (λb=>b=s.heap.size) b:=λb g=>⟨λe=>by subst e;omega,λe=>by unfold GV.of at e;simp only at e;omega,λe=>by unfold GV.of at e;simp only at e;omega⟩
    refine⟨a0.1.below o,FmR.live _ _ av,λb g=>⟨bm b (by rcases g.1 with h|h;exact Or.inl h.2;exact Or.inr h),g.2⟩,
     (HD.keep (.of_below q)).mono (λb g=>⟨g,bs b g⟩),λb g=>⟨bm b (Or.inl g.2),by have:=g.2;have:=q.size;omega⟩,bp.on q,⟨q.size,λb g=>by subst g;exact az,?_,?_⟩,
     zED f L.2,Nat.le_trans (zHx f) bh,WSt.new,by simp[inn],ak⟩
    ·show w.heap.size<=s.heap.size+1+1;omega
    show w.heap.size<=s.heap.size+1+1+1+1;omega)
   have U:=hid (zTC ds 0 (zZ ⟨#[]⟩ 0 f) bd Q ⟨[],[],false⟩ (λb=>b=s.heap.size) (λ_=>False) _ (by simp) (Nat.zero_le _) bw);have Z:zA (λb=>b=s.heap.size+1+1+1+1+1\/b=w.heap.size) J Q:= .of_below o;have I:=hid (And.intro q (a0.2.1.below o (by omega)));have H:=hid (And.intro L.2 (show GInv ds ⟨[],[],false⟩ from⟨Good.nil ds,λp hp=>absurd hp (by simp)⟩));refine hK _ _ (Or.inr Z) ?_;clear hK K aq av o q z bk L bh
   (try simp only[nr])
   refine wS1 3 (λK hK=> ?_);(go_wp2_with fail);refine U.mono ?_;intro e R M
   have ap:zA (λb=>b=s.heap.size+1+1+1+1+1\/b=w.heap.size) J R:=Z.trans (M.2.2.mono λb _ g=>by
    rcases g with rfl|rfl
    ·exact⟨by omega,by unfold GV.of;simp only;omega,by unfold GV.of;simp only;omega⟩
    exact⟨by omega,by unfold GV.of;simp only;omega,by unfold GV.of;simp only;omega⟩)
   have ao:=hid M;obtain rfl:=M.1;refine hK _ _ (Or.inr ap) ?_;clear hK K M U
   (try simp only[nr])
   refine wS1 4 (λK hK=> ?_);(go_wp2_with fail);refine hK _ _ (Or.inl rfl) ?_;clear hK K
   (try simp only[nr])
   refine wSd ?_ _;(have bj:=λh=>zIx ak ds 0 (zZ ⟨#[]⟩ 0 f) ⟨[],[],false⟩ (by simp) (Nat.zero_le _) (zED f H.1) (zGy f H.1) (λn hn=>zKL _ (zED f H.1) n hn) H.2 h);have ca:=zSm (rest:=ds) (i:=0) (f:=zZ ⟨#[]⟩ 0 f) WSt.new (N:=4000+ds.length) (by simp[inn]) (Nat.le_refl _);have b8:=zBf ak.out;generalize zz ds 0 (zZ ⟨#[]⟩ 0 f) ⟨[],[],false⟩=r at*;have bv:=hid bj;obtain⟨-,⟨F',Z',E,bz,bf⟩,B⟩:=ao.out;have x:Blk R (w.heap.size+1+1) 74 #[.slice none 0 0]:=I.2.keep B ⟨by omega,by unfold GV.of;simp only;omega,by unfold GV.of;simp only;omega⟩;have ad:Bw w R:=I.1.trans ⟨B.os,B.tape,B.output,B.size,λb g=>B.block b (by have:=I.1.size;omega) ⟨by omega,by unfold GV.of;simp only;omega,by unfold GV.of;simp only;omega⟩⟩;have v0:R.cell? ⟨s.heap.size+1+1+1+1,0,none⟩=some (.bool r.2.full):=E.fv.cell;have a7:=E.fv.lt;have m0:R.cell? ⟨s.heap.size+1,0,none⟩=some (.pointer (some ⟨s.heap.size,0,none⟩)):=E.mv.cell;have a6:=E.mv.lt;unfold GV.of at a7 a6;simp only at a7 a6;have ba:=hid (And.intro E.mkr (λb g=>(by rcases bf b g with h|h;exact h.elim;have:=I.1.size;omega:w.heap.size+1+1<b/\w.heap.size<=b)));have C:=hid (And.intro x ad);have r0:=x.cell 0;have rf:=x.frozen 0;have rl:=x.lt;clear E bz bf B x ad hS Z ap ao bj
   cases m:r.2.full with
   |true=>
    rw[m]at v0;have HR:=hid (aj.trans (if_pos m));clear m aj;have V:=C;go_wp2;have r1:=(V.1.set_ 0 (.slice none 0 0)).cell 0;refine bodyPost_ret (v:= .tuple #[.agg #[.slice none 0 0],.int .i64 2]) (by simp[results,results125,go_sem,r1]) rfl ?_;rw[HR.out];exact⟨_,rfl,zEp _ _,V.2.setCell (p:=⟨w.heap.size+1+1,0,none⟩) (by show w.heap.size<=w.heap.size+1+1;omega) _⟩
   |false=>
   rw[m]at v0;have bc:=hid (aj.trans (if_neg (by rw[m];simp)));obtain⟨bi,ax⟩:=bv m;(have bg:(zAr ds r.2.all r.1).length =(zBm ds r.2.all r.1).length :=by unfold zAr;rw[List.length_map]);have bu:=hid (zKJ ds r.2.all bi.good (by omega) s.heap.size F' Z' r.1 R ax.rng ba.1)
   have bt:=hid (show zBp ds f=zCw ds r.2.all r.1 from by
    rw[bc.out];unfold zCw;rw[bg])
   clear m aj bc bi ax bg;(go_wp2_with fail);refine bu.mono ?_;rintro e b4 ⟨b3,rfl,ay,ab⟩;have y:=C.1.below ab C.1.lt;have ae:=C.2.trans (ab.mono C.2.size);clear r0 rf rl v0 a7 m0 a6;have r0:=y.cell 0;have rf:=y.frozen 0;have rl:=y.lt
   have ah:zK (λb=>w.heap.size<=b/\b≠w.heap.size+1+1) b4 b3 (zCw ds r.2.all r.1).1:=ay.mono λb g=>by
    have b7:=C.1.lt;rcases g with g|g
    ·have:=ba.2 b g;omega
    omega
   obtain⟨a8,Y,rfl,-⟩:=ay;have HN:=hid (And.intro ah (And.intro y ae));clear ah y ae ab;go_wp2;have r1:=(HN.2.1.set_ 0 (.slice a8 (zCw ds r.2.all r.1).1.length Y)).cell 0;refine bodyPost_ret (v:= .tuple #[.agg #[.slice a8 (zCw ds r.2.all r.1).1.length Y],.int .i64 (zCw ds r.2.all r.1).2]) (by simp[results,results125,go_sem,r1]) rfl ?_;rw[bt.out];exact⟨_,rfl,(HN.1.keep ((zA.refl _ _).setCell (λ_ h=>h.2 rfl) _)).mono (λb g=>Or.inr g.1),HN.2.2.setCell (p:=⟨w.heap.size+1+1,0,none⟩) (by show w.heap.size<=w.heap.size+1+1;omega) _⟩
  have e1:(zBY ds f !=(0:Int))=true:=by simp[G]
  have HR:=hid (HU.trans (if_pos (Or.inr G)));have r0:=c.cell 0;have rf:=c.frozen 0;have rl:=c.lt;have V:=hid (And.intro c d);clear G a j c d HU;go_wp2;have r1:=(V.1.set_ 0 (.slice none 0 0)).cell 0;refine bodyPost_ret (v:= .tuple #[.agg #[.slice none 0 0],.int .i64 1]) (by simp[results,results125,go_sem,r1]) rfl ?_;rw[HR.out];exact⟨_,rfl,zEp _ _,V.2.setCell (p:=⟨w.heap.size+1+1,0,none⟩) (by show w.heap.size<=w.heap.size+1+1;omega) _⟩
 have a5:zT ds=false:=by simpa using hv
 have HR:=hid (HU.trans (if_pos (Or.inl a5)));have r0:=c.cell 0;have rf:=c.frozen 0;have rl:=c.lt;have V:=hid (And.intro c d);rw[a5];clear hv a5 a j c d HU;go_wp2;have r1:=(V.1.set_ 0 (.slice none 0 0)).cell 0;refine bodyPost_ret (v:= .tuple #[.agg #[.slice none 0 0],.int .i64 1]) (by simp[results,results125,go_sem,r1]) rfl ?_;rw[HR.out];exact⟨_,rfl,zEp _ _,V.2.setCell (p:=⟨w.heap.size+1+1,0,none⟩) (by show w.heap.size<=w.heap.size+1+1;omega) _⟩
end
theorem zLr(Z Z':zD)(n:zB)(cs:List Value)(vd:Value)(ds:List zE)(w:World)(k:zAY Z w cs n)(h:Facts Z' w vd ds):
  Calls prog 118 #[.agg cs.toArray,.agg #[vd]] w λe w'=>e= .returned (.int .i64 (zU ds n))/\Bw w w':=by
 obtain⟨m,vk,rfl,-,b,c⟩:=k;obtain⟨D,dcap,rfl,-,-,-⟩:=h.open_;obtain⟨K,d,rfl,-⟩:=c.form;obtain⟨i,f,rfl,-⟩:=b.form;have g:=hid (zCX w (.cells #[.bool n.leaf,.int .i64 n.fact,.slice i n.cuts.length f,.slice K n.kids.length d] 123) (.cells #[.slice D ds.length dcap] 25));clear b c h;by_cases a:n.kids=[]
 ·have e:zU ds n=ds.length:=by unfold zU;rw[if_pos a]
  have j:((n.kids.length:Int)==0)=true:=by simp[a]
  rw[e];clear e a;go_enter func118,ntmps118
  go_wp2;go_ret;exact⟨rfl,g⟩
 have e:zU ds n=n.fact:=by unfold zU;rw[if_neg a]
 have j:((n.kids.length:Int)==0)=false:=by simp[a]
 rw[e];clear e a;go_enter func118,ntmps118
 go_wp2;go_ret;exact⟨rfl,g⟩
theorem zOG(Z:zD)(vg:Value)(g:List zB)(ds:List zE)(x i v:Int)(w:World)(hg:zK Z w vg g)(j:Good ds g)(u:Rng g x):
  Calls prog 120 #[.agg #[vg],.int .i64 x,.int .i64 i,.int .i64 v] w λe w'=>e= .returned (.int .i64 (zAQ g x i v))/\Bw w w':=by
 obtain⟨A,F,rfl,Y,ag,T⟩:=hg.open_;obtain⟨k,rfl⟩:=Int.eq_ofNat_of_zero_le u.1;have hi:k<g.length:=by have:=u.2;omega
 obtain⟨b,I,al,ao,rfl,hz,hb,c0,c1,c2,c3,hf,G,B⟩:=T k hi;have D:nAt g (k:Int)=g[k]:=zCB hi;have J:=hid (λ(h:(nAt g k).kids ≠[])=>(j.inner u h).nxL v);have N:=hid (λ(h:(nAt g k).kids ≠[])=>(j.inner u h).len);have E:=hid (show zAQ g k i v=if(nAt g k).kids ≠[]/\(nAt g k).fact =i then(nAt g k).kids.getD (nx (nAt g k).cuts v) 0 else(k:Int) from rfl);rw[D]at J N E;obtain⟨Q,f,rfl,-⟩:=G.form;obtain⟨K,d,rfl,ak⟩:=B.form;have ai:(k:Int)<(g.length:Int):=by omega
 have HN:=hid (λW(hW:Bw w W)=>zRU Z g[k] [.bool g[k].leaf,.int .i64 g[k].fact,.slice Q g[k].cuts.length f,.slice K g[k].kids.length d] v W ((show zAY Z w _ g[k] from⟨_,_,rfl,hf,G,B⟩).keep (.of_below hW)));have HK:=hid B;generalize g[k]=n at*;clear T Y D j u G B hg hf;have X:=(Blk.new' (w.alloc (.cells #[.slice (some ⟨b,I,none⟩) g.length F] 74)) 123 #[.bool n.leaf,.int .i64 n.fact,.slice Q n.cuts.length f,.slice K n.kids.length d] (n:=w.heap.size+1) (by simp));have V:=zCX w (.cells #[.slice (some ⟨b,I,none⟩) g.length F] 74) (.cells #[.bool n.leaf,.int .i64 n.fact,.slice Q n.cuts.length f,.slice K n.kids.length d] 123);have HB:=hid (And.intro X V);clear X V;by_cases t:n.kids=[]
 ·have e:zAQ g k i v=k:=by rw[E.out,if_neg (λh=>h.1 t)]
  have e3:decide ((0:Int)<(n.kids.length:Int))=false:=by simp[t]
  have e5:decide (0<n.kids.length)=false:=by simp[t]
  rw[e];clear e t E J N HN HK;go_enter func120,ntmps120
  go_wp2;go_ret;exact⟨rfl,HB.2⟩
 have ae:0<n.kids.length:=List.length_pos_iff.2 t;have e3:decide ((0:Int)<(n.kids.length:Int))=true:=by simp;omega
 by_cases m:n.fact=i
 ·have P:=hid (E.trans (if_pos ⟨t,m⟩));have L:=hid (J t);have O:=hid (N t);have e4:(n.fact==i)=true:=by simp[m]
  rw[P.out];clear t E J N m;have af:=zEr n.cuts v;obtain⟨q,hq⟩:∃q:Nat,q=nx n.cuts v:=⟨_,rfl⟩;have ab:q<n.kids.length:=by have:=O.out;omega
  obtain⟨kb,s,rfl,-,aj,H⟩:=HK.at_ ab;have HQ:=hid (show n.kids[q]=n.kids.getD (nx n.cuts v) 0 from by rw[<-hq];simp[List.getD_eq_getElem?_getD,ab]);have ac:=hid (show nxL n v=(q:Int) from by rw[L.out,hq]);generalize n.kids[q]=r at*;have ah:(q:Int)<(n.kids.length:Int):=by omega
  have aa:=lt_of_cell H;have M:=hid H;rw[<-HQ.out];clear hq HQ P L O H af ae;go_enter func120,ntmps120
  go_upto_region 3 with fail
  have c:=HB;generalize (w.alloc _).alloc _=C at*
  have a:=hid (λ(W:World)(hW:Bw C W)=>(show W.cell? ⟨w.heap.size+1,0,none⟩=some (.bool n.leaf)/\W.cell? ⟨w.heap.size+1,1,none⟩=some (.int .i64 n.fact)/\W.cell? ⟨w.heap.size+1,2,none⟩=some (.slice Q n.cuts.length f)/\W.cell? ⟨w.heap.size+1,3,none⟩=some (.slice (some ⟨kb,s,none⟩) n.kids.length d)/\W.cell? ⟨kb,s+q,none⟩=some (.int .i64 r) from by
   have u:=c.1.below hW c.1.lt;have hw:=c.2.trans (hW.mono c.2.size)
   exact⟨u.cell 0,u.cell 1,u.cell 2,u.cell 3,brd hw M aa⟩))
  clear c0 c1 c2 c3;refine zY 7 (λW=>Bw C W) (by kernel_rfl) ?_;have y:(λW=>Bw C W) C.drew:=(Below.refl _ _).drew
  (refine tkQ 0 y ?_;simp only[nr])
  (refine tkS 1 ?_ y ?_ ?_;rotate_left;intro w o;obtain⟨h0,h1,h2,h3,h4⟩:=a _ o;go_simp;(try with_reducible rfl);simp only[nr])
  (refine tkS 2 ?_ y ?_ ?_;rotate_left;intro w o;obtain⟨h0,h1,h2,h3,h4⟩:=a _ o;go_simp;(try with_reducible rfl);simp only[nr])
  (refine tkQ 3 y ?_;simp only[nr])
  refine wS1 4 (λK R=> ?_);go_wp2_with fail
  refine(HN _ (c.2.trans ((Below.refl _ _).drew.mono c.2.size))).mono ?_;rintro e w1 ⟨rfl,U⟩;rw[ac.out];have z:Bw C w1:=((Below.refl C.heap.size C).drew).trans U;refine R _ _ (Or.inr z) ?_;clear R K U y
  (try simp only[nr])
  have y:(λW=>Bw C W) w1:=z
  (refine tkQ 5 y ?_;simp only[nr])
  (refine tkS 6 ?_ y ?_ ?_;rotate_left;intro w o;obtain⟨h0,h1,h2,h3,h4⟩:=a _ o;go_simp;(try with_reducible rfl);simp only[nr])
  refine wS1 7 (λK R=> ?_);go_wp2_with fail
  refine R _ _ (Or.inl rfl) ?_;clear R K
  (try simp only[nr])
  refine wSd ?_ _;have ad:=c.2.trans (z.mono c.2.size);clear y z a HN M;go_wp2;go_ret;exact⟨rfl,ad⟩
 have e:zAQ g k i v=k:=by rw[E.out,if_neg (λh=>m h.2)]
 have e4:(n.fact==i)=false:=by simp[m]
 rw[e];clear e t E J N HN HK m;go_enter func120,ntmps120
 go_wp2;go_ret;exact⟨rfl,HB.2⟩
structure Dw (w0 w:World) (va vb vd:Value) (a b:List zB) (ds:List zE) (Z:zD):Prop where
 ab:Blk w w0.heap.size 74 #[va]
 bb:Blk w (w0.heap.size+1) 74 #[vb]
 db:Blk w (w0.heap.size+1+1) 25 #[vd]
 na:zK Z w va a
 nb:zK Z w vb b
 fs:Facts Z w vd ds
 below:Bw w0 w
 tab:zBr w.heap.size w
 zone:∀b,Z b->b<w.heap.size
theorem Dw.on{d w w':World}{a b:List zB}(h:Dw d w va vb vd a b ds Z)(c:Bw w w'):Dw d w' va vb vd a b ds Z:=
 ⟨h.ab.below c h.ab.lt,h.bb.below c h.bb.lt,h.db.below c h.db.lt,h.na.keep (.of_below c),h.nb.keep (.of_below c),h.fs.keep (.of_below c),h.below.trans (c.mono h.below.size),(h.tab.on c).mono c.size,λb e=>Nat.lt_of_lt_of_le (h.zone b e) c.size⟩
theorem Dw.start{a b:List zB}(e:zK Z w va a)(f:zK Z w vb b)(g:Facts Z w vd ds)(i:∀b,Z b->b<w.heap.size)(d:zBr w.heap.size w):
  Dw w (((w.alloc (.cells #[va] 74)).alloc (.cells #[vb] 74)).alloc (.cells #[vd] 25)) va vb vd a b ds Z:=by
 have c:=((zG w (.cells #[va] 74)).alloc (by simp) (.cells #[vb] 74)).alloc (by simp;omega) (.cells #[vd] 25);exact⟨((Blk.new w _ _).alloc _).alloc _,(Blk.new' (w.alloc (.cells #[va] 74)) _ _ (by simp)).alloc _,Blk.new' ((w.alloc (.cells #[va] 74)).alloc (.cells #[vb] 74)) _ _ (by simp),e.keep (.of_below c),f.keep (.of_below c),g.keep (.of_below c),c,(d.on c).mono c.size,λb h=>Nat.lt_of_lt_of_le (i b h) c.size⟩
theorem zOx(Z:zD)(P vb vd:Value)(a b:List zB)(ds:List zE)(w:World)(K:zK Z w P a)(f:zK Z w vb b)(L:Facts Z w vd ds)(O:∀b,Z b->b<w.heap.size)(o:zBr w.heap.size w)(M:zBo ds a=false\/zBo ds b=false):
  Calls prog 65 #[.agg #[P],.agg #[vb],.agg #[vd]] w λe w'=>e= .returned (.tuple #[.agg #[.slice none 0 0],.int .i64 1])/\Bw w w':=by
 obtain⟨F,g,rfl,-,-,-⟩:=K.open_;obtain⟨H,k,rfl,-,-,-⟩:=f.open_;obtain⟨D,dcap,rfl,-,-,-⟩:=L.open_;have c:=hid (Dw.start K f L O o);clear K f L O o;go_enter func65,ntmps65
 have d:=hid (Blk.new' (((w.alloc (.cells #[.slice F a.length g] 74)).alloc (.cells #[.slice H b.length k] 74)).alloc (.cells #[.slice D ds.length dcap] 25)) 74 #[.slice none 0 0] (n:=w.heap.size+1+1+1) (by simp));replace c:=hid (c.on ((zG _ (.cells #[.slice none 0 0] 74)).mono (Nat.le_refl _)));go_upto_region 1 with fail
 generalize (((w.alloc _).alloc _).alloc _).alloc _=G at*;have s:=c.ab.at0;have t:w.heap.size<G.heap.size:=c.ab.lt;have u:=c.bb.at0;have x:w.heap.size+1<G.heap.size:=c.bb.lt;have y:=c.db.at0;have z:w.heap.size+1+1<G.heap.size:=c.db.lt;have A:=d.at0;have B:w.heap.size+1+1+1<G.heap.size:=d.lt;by_cases m:zBo ds a=true
 ·have q:=hid m;have I:=hid (show zBo ds b=false from by rcases M with h|h<;>first|exact h|(rw[m]at h;cases h));clear m M;have j:=hid (zEO Z (.slice F a.length g) (.slice D ds.length dcap) a ds _ c.na c.fs c.tab);rw[q.out]at j;go_wp2_with fail
  refine j.mono ?_;rintro e i ⟨rfl,f⟩;replace c:=hid (c.on f);replace d:=hid (d.below f d.lt);clear f j s t u x y z A B;have s:=c.ab.at0;have t:w.heap.size<i.heap.size:=c.ab.lt;have u:=c.bb.at0;have x:w.heap.size+1<i.heap.size:=c.bb.lt;have y:=c.db.at0;have z:w.heap.size+1+1<i.heap.size:=c.db.lt;have A:=d.at0;have B:w.heap.size+1+1+1<i.heap.size:=d.lt;have N:i.frozen? ⟨w.heap.size+1+1+1,0,none⟩=false:=d.frozen 0;have j:=hid (zEO Z (.slice H b.length k) (.slice D ds.length dcap) b ds _ c.nb c.fs c.tab);rw[I.out]at j;go_wp2_with fail
  refine j.mono ?_;rintro e C ⟨rfl,f⟩;replace c:=hid (c.on f);replace d:=hid (d.below f d.lt);clear f j s t u x y z A B N;have s:=c.ab.at0;have t:w.heap.size<C.heap.size:=c.ab.lt;have u:=c.bb.at0;have x:w.heap.size+1<C.heap.size:=c.bb.lt;have y:=c.db.at0;have z:w.heap.size+1+1<C.heap.size:=c.db.lt;have A:=d.at0;have B:w.heap.size+1+1+1<C.heap.size:=d.lt;have N:C.frozen? ⟨w.heap.size+1+1+1,0,none⟩=false:=d.frozen 0;have E:(C.setCell ⟨w.heap.size+1+1+1,0,none⟩ (.slice none 0 0)).cell? ⟨w.heap.size+1+1+1,0,none⟩=some (.slice none 0 0):=(d.set_ 0 _).cell 0;have J:=hid E;clear E;go_wp2_with fail
  exact bodyPost_ret (v:= .tuple #[.agg #[.slice none 0 0],.int .i64 1]) (by simp[results,results65,go_sem,J.out]) rfl ⟨rfl,(c.below.setCell (by simp;omega) _)⟩
 have q:=hid (show zBo ds a=false from by simpa using m);clear m M;have j:=hid (zEO Z (.slice F a.length g) (.slice D ds.length dcap) a ds _ c.na c.fs c.tab);rw[q.out]at j;go_wp2_with fail
 refine j.mono ?_;rintro e i ⟨rfl,f⟩;replace c:=hid (c.on f);replace d:=hid (d.below f d.lt);clear f j s t u x y z A B;have s:=c.ab.at0;have t:w.heap.size<i.heap.size:=c.ab.lt;have u:=c.bb.at0;have x:w.heap.size+1<i.heap.size:=c.bb.lt;have y:=c.db.at0;have z:w.heap.size+1+1<i.heap.size:=c.db.lt;have A:=d.at0;have B:w.heap.size+1+1+1<i.heap.size:=d.lt;have N:i.frozen? ⟨w.heap.size+1+1+1,0,none⟩=false:=d.frozen 0;have E:(i.setCell ⟨w.heap.size+1+1+1,0,none⟩ (.slice none 0 0)).cell? ⟨w.heap.size+1+1+1,0,none⟩=some (.slice none 0 0):=(d.set_ 0 _).cell 0;have J:=hid E;clear E;go_wp2_with fail
 exact bodyPost_ret (v:= .tuple #[.agg #[.slice none 0 0],.int .i64 1]) (by simp[results,results65,go_sem,J.out]) rfl ⟨rfl,(c.below.setCell (by simp;omega) _)⟩
structure AV where
 Dv:Nat
 Av:Nat
 Bv:Nat
 Fv:Nat
 Mv:Nat
 Gv:Nat
 M:Nat
 db:Nat
def AV.var(c:AV)(b:Nat):Prop:=b=c.Dv\/b=c.Av\/b=c.Bv\/b=c.Fv\/b=c.Mv\/b=c.Gv
def AV.fn(c:AV):Value:= .func (.func 117) #[] #[.pointer (some ⟨c.Dv,0,none⟩),.pointer (some ⟨c.Av,0,none⟩),.pointer (some ⟨c.Bv,0,none⟩),.pointer (some ⟨c.Fv,0,none⟩),.pointer (some ⟨c.Mv,0,none⟩),.pointer (some ⟨c.Gv,0,none⟩)]
abbrev AV.args(c:AV)(x y:Int):Array Value:=#[.int .i64 x,.int .i64 y,.pointer (some ⟨c.Dv,0,none⟩),.pointer (some ⟨c.Av,0,none⟩),.pointer (some ⟨c.Bv,0,none⟩),.pointer (some ⟨c.Fv,0,none⟩),.pointer (some ⟨c.Mv,0,none⟩),.pointer (some ⟨c.Gv,0,none⟩)]
def AV.kept(c:AV)(F:zD):zD:=λb=>¬F b/\b≠c.db
structure AnW (c:AV) (va vb vd:Value) (w:World) (st:ASt) (F Z:zD):Prop where
 dv:One w c.Dv (.map (some c.db))
 av:One w c.Av va
 bv:One w c.Bv vb
 fv:One w c.Fv vd
 mv:One w c.Mv (.pointer (some ⟨c.M,0,none⟩))
 gv:One w c.Gv c.fn
 mkr:MkS w c.M st.all F Z
 done:zS zE2 w c.db (kvA st.done)
 var:∀b,c.var b->c.kept F b
 dF:¬F c.db
 dZ:¬Z c.db
section anw
variable {c:AV} {va vb vd:Value} {w w' W:World} {st:ASt} {F Z F' Z':zD}
theorem AnW.keep(h:AnW c va vb vd w st F Z)(a:zA (λb=>F b\/Z b\/c.var b\/b=c.db) w w'):AnW c va vb vd w' st F Z:=by
 have v:∀b,c.var b->(λb=>F b\/Z b\/c.var b\/b=c.db) b:=λb d=>Or.inr (Or.inr (Or.inl d))
 exact⟨h.dv.keep a (v _ (Or.inl rfl)),h.av.keep a (v _ (Or.inr (Or.inl rfl))),h.bv.keep a (v _ (Or.inr (Or.inr (Or.inl rfl)))),h.fv.keep a (v _ (Or.inr (Or.inr (Or.inr (Or.inl rfl))))),
  h.mv.keep a (v _ (Or.inr (Or.inr (Or.inr (Or.inr (Or.inl rfl)))))),h.gv.keep a (v _ (Or.inr (Or.inr (Or.inr (Or.inr (Or.inr rfl)))))),h.mkr.keep (a.mono λb _ d=>d.imp id Or.inl),h.done.of_block (a.block c.db h.done.lt (Or.inr (Or.inr (Or.inr rfl)))),h.var,h.dF,h.dZ⟩
theorem AnW.below(h:AnW c va vb vd w st F Z)(a:Bw w w'):AnW c va vb vd w' st F Z:=h.keep (.of_below a)
theorem AnW.lt(h:AnW c va vb vd w st F Z):(∀b,c.var b->b<w.heap.size)/\c.db<w.heap.size:=
 ⟨λb a=>by rcases a with rfl|rfl|rfl|rfl|rfl|rfl;exact h.dv.lt;exact h.av.lt;exact h.bv.lt;exact h.fv.lt;exact h.mv.lt;exact h.gv.lt,h.done.lt⟩
theorem AnW.made(h:AnW c va vb vd w st F Z)(e:Bw w W)(j:MkS w' c.M all F' Z')(hF:∀b,F' b->F b\/W.heap.size<=b)(g:∀b,Z' b->Z b\/W.heap.size<=b)(f:zA (λb=>¬F b) W w'):AnW c va vb vd w' ⟨all,st.done⟩ F' Z':=by
 have d:=h.below e;have i:=h.lt;have k:=e.size;have v:=λb e=>(h.var b e).1
 refine⟨d.dv.keep f (v _ (Or.inl rfl)),d.av.keep f (v _ (Or.inr (Or.inl rfl))),d.bv.keep f (v _ (Or.inr (Or.inr (Or.inl rfl)))),d.fv.keep f (v _ (Or.inr (Or.inr (Or.inr (Or.inl rfl))))),
  d.mv.keep f (v _ (Or.inr (Or.inr (Or.inr (Or.inr (Or.inl rfl)))))),d.gv.keep f (v _ (Or.inr (Or.inr (Or.inr (Or.inr (Or.inr rfl)))))),j,
  d.done.of_block (f.block c.db d.done.lt h.dF),λb e=>⟨λa=> ?_,(h.var b e).2⟩,λa=> ?_,λa=> ?_⟩
 ·rcases hF b a with a|a
  ·exact(h.var b e).1 a
  have:=i.1 b e;omega
 ·rcases hF _ a with a|a
  ·exact h.dF a
  omega
 rcases g _ a with a|a
 ·exact h.dZ a
 omega
theorem AnW.setDone(h:AnW c va vb vd w st F Z){d:List ((Int × Int) × Int)}(g:zS zE2 w' c.db (kvA d))(f:zA (λb=>b≠c.db) w w'):AnW c va vb vd w' ⟨st.all,d⟩ F Z:=by
 have v:=λb a=>(h.var b a).2
 exact⟨h.dv.keep f (v _ (Or.inl rfl)),h.av.keep f (v _ (Or.inr (Or.inl rfl))),h.bv.keep f (v _ (Or.inr (Or.inr (Or.inl rfl)))),h.fv.keep f (v _ (Or.inr (Or.inr (Or.inr (Or.inl rfl))))),
  h.mv.keep f (v _ (Or.inr (Or.inr (Or.inr (Or.inr (Or.inl rfl)))))),h.gv.keep f (v _ (Or.inr (Or.inr (Or.inr (Or.inr (Or.inr rfl)))))),h.mkr.keep (f.mono λb _ a e=>by subst e;rcases a with a|a;exact h.dF a;exact h.dZ a),g,h.var,h.dF,h.dZ⟩
end anw
def zHa(c:AV)(va vb vd:Value)(w:World)(F Z:zD)(r:Int × ASt)(e:Ending)(w':World):Prop:=
 e= .returned (.int .i64 r.1)/\(∃F' Z',AnW c va vb vd w' r.2 F' Z'/\(∀b,F' b->F b\/w.heap.size<=b)/\(∀b,Z' b->Z b\/w.heap.size<=b))/\zA (c.kept F) w w'
structure zEf (c:AV) (va vb vd:Value) (a b:List zB) (ds:List zE) (Zn:zD) (B0:Nat) (w:World) (st:ASt) (F Z:zD):Prop where
 mem:AnW c va vb vd w st F Z
 na:zK Zn w va a
 nb:zK Zn w vb b
 fs:Facts Zn w vd ds
 off:∀x,Zn x->c.kept F x/\x<w.heap.size
 tab:zBr B0 w
 base:B0<=w.heap.size/\(∀x,F x->B0<=x)/\B0<=c.db
 wst:zFz st
 len:inn st.all<=4000+ds.length
 ga:zBP ds a
 gb:zBP ds b
section anin
variable {c:AV} {va vb vd:Value} {a b:List zB} {ds:List zE} {Zn:zD} {B0:Nat} {w w' W:World} {st:ASt} {F Z:zD}
theorem zEf.all_len(h:zEf c va vb vd a b ds Zn B0 w st F Z):st.all.length<=4062:=by
 have d:=h.wst.tab.len;have e:=h.len;have f:=zBf h.ga.dom;omega
theorem zEf.belowB(h:zEf c va vb vd a b ds Zn B0 w st F Z){W:World}(d:zA (c.kept F) w W):Below B0 w W:=
 ⟨d.os,d.tape,d.output,d.size,λb f=>d.block b (by have:=h.base.1;omega) ⟨λe=>by have:=h.base.2.1 b e;omega,by have:=h.base.2.2;omega⟩⟩
theorem zEf.tabAt(h:zEf c va vb vd a b ds Zn B0 w st F Z){W:World}(d:zA (c.kept F) w W):zBr W.heap.size W:=
 (h.tab.on (h.belowB d)).mono (by have:=h.base.1;have:=d.size;omega)
theorem zEf.node(h:zEf c va vb vd a b ds Zn B0 w st F Z)(l:Bool){W:World}(d:Bw w W):
  Calls prog 119 #[.pointer (some ⟨c.M,0,none⟩),.agg #[.bool l,.int .i64 0,.slice none 0 0,.slice none 0 0]] W (zC3 W c.M F (λb=>Z b\/False) (zy st.all ⟨l,0,[],[]⟩)):=
 zG3 c.M st.all F Z (λ_=>False) ⟨l,0,[],[]⟩ [.bool l,.int .i64 0,.slice none 0 0,.slice none 0 0] W (h.mem.mkr.below d) (zLp W F l) (by have:=h.all_len;omega) (h.tabAt (.of_below d))
theorem zTs{W:World}{l:Bool}{e:Ending}(h:AnW c va vb vd w st F Z)(a:Bw w W)(i:zC3 W c.M F (λb=>Z b\/False) (zy st.all ⟨l,0,[],[]⟩) e w'):
  zHa c va vb vd w F Z ((zy st.all ⟨l,0,[],[]⟩).1,⟨(zy st.all ⟨l,0,[],[]⟩).2,st.done⟩) e w':=by
 obtain⟨he,⟨F',g,d⟩,f⟩:=i;have j:=a.size;refine⟨he,⟨F',_,h.made a g d (λb a=>a.imp id λh=>h.elim) f,λb a=>(d b a).imp id λh=>by omega,λb a=>a.imp id λh=>h.elim⟩,(zA.of_below a).trans (f.mono λb _ a=>a.1)⟩
theorem Tryz.keyP:zFP prog 180 zE2:=by
 obtain⟨i,a⟩:=info_of_underlying underlying3;exact zPf underlying180 underlying3 a (by kernel_rfl) (λw b x=>by unfold zE2;kernel_rfl)
theorem Tryz.lookP{w:World}{b:Nat}{d:List ((Int × Int) × Int)}(h:zS zE2 w b (kvA d))(x y:Int):
  (Instr.lookup 178 (.map (some b)) (.agg #[.int .i64 x,.int .i64 y]) true).run prog w= .ok (.tuple #[(match kvI d (x,y)with|some v=> .int .i64 v|none=> .int .i64 0),.bool (kvI d (x,y)).isSome]) w:=by
 have a:=h.look Tryz.keyP (t:=178) (e:=3) underlying178 (Tryz.zeroInt w) (x,y) true;rw[zPM,if_pos rfl]at a;refine Eq.trans a ?_;cases kvI d (x,y)<;>rfl
end anin
structure AnL (c:AV) (va vb vd:Value) (w6 wr:World) (F Z:zD) (st':ASt) (kids:List Int) (vk:Value) (F' Z':zD):Prop where
 own:wr.ownsRow w6.heap.size 3 1 vk kids.length (kids.map (.int .i64))
 row:∀b,vk.ownBlock=some b->c.kept F' b/\¬Z' b/\¬c.var b
 mem:AnW c va vb vd wr st' F' Z'
 hF:∀b,F' b->F b\/w6.heap.size<=b
 hZ:∀b,Z' b->Z b\/w6.heap.size<=b
 kept:zA (c.kept F) w6 wr
theorem AnL.start{c:AV}{st:ASt}(h:AnW c va vb vd w6 st F Z):AnL c va vb vd w6 w6 F Z st [] (.slice none 0 0) F Z:=
 ⟨World.ownsRow_nil _ _ _ _,λb a=>(by cases a),h,λb a=>Or.inl a,λb a=>Or.inl a,zA.refl _ _⟩
theorem zFM{c:AV}(h:∀b,F' b->F b\/n<=b)(d:c.kept F b)(e:b<m)(f:m<=n):c.kept F' b:=
 ⟨λa=>by
  rcases h b a with a|a
  ·exact d.1 a
  omega,d.2⟩
theorem AnL.step{c:AV}{H wr K t n:World}{G:ASt}{r:Int × ASt}(h:AnL c va vb vd H wr F Z G kids vk F' Z')(f:Bw wr K)
  (P:zHa c va vb vd K F' Z' r e t)(N:(t.alloc o).grownBy n vk.ownBlock)(O:n.ownsRow H.heap.size 3 1 v5 (kids.length+1) (kids.map (.int .i64)++[.int .i64 r.1]))(A:v5.ownBlock=vk.ownBlock\/v5.ownBlock=some (t.alloc o).heap.size):
  ∃j m,AnL c va vb vd H n F Z r.2 (kids++[r.1]) v5 j m:=by
 obtain⟨-,⟨j,m,B,q,s⟩,g⟩:=P;have C:=f.size;have R:=g.size;have u:=B.lt;have E:∀b,vk.ownBlock=some b->b<wr.heap.size:=λb a=>(h.own.lt b a).2
 have w:∀b,vk.ownBlock=some b->c.kept j b/\¬m b/\¬c.var b:=λb a=>by
  have z:=h.row b a;have L:=E b a;refine⟨zFM q z.1 L C,λi=> ?_,z.2.2⟩;rcases s b i with i|i
  ·exact z.2.1 i
  omega
 have v:=B.mkr;have d:zA (λb=>vk.ownBlock≠some b) t n:=((zA.refl _ _).alloc o).grown N (λk x _ i=>i x);refine⟨j,m,by simpa using O,λb a=> ?_,B.keep (d.mono λb I a e=> ?_),λb a=> ?_,λb a=> ?_,?_⟩
 ·rcases A with e|e
  ·rw[e]at a;exact w b a
  rw[e]at a;injection a with a;subst a;have D:(t.alloc o).heap.size =t.heap.size+1:=by simp
  rw[D];refine⟨⟨λM=> ?_,?_⟩,λi=> ?_,λT=> ?_⟩
  ·have:=v.liveF _ M;omega
  ·have:=u.2;omega
  ·have:=v.liveZ _ i;omega
  have:=u.1 _ T;omega
 ·have y:=w b e;rcases a with a|a|a|a
  ·exact y.1.1 a
  ·exact y.2.1 a
  ·exact y.2.2 a
  exact y.1.2 a
 ·rcases q b a with a|a
  ·exact h.hF b a
  have:=h.kept.size;exact Or.inr (by omega)
 ·rcases s b a with a|a
  ·exact h.hZ b a
  have:=h.kept.size;exact Or.inr (by omega)
 have Q:=h.kept.size;have J:=d.size;refine⟨d.os.trans (g.os.trans (f.os.trans h.kept.os)),d.tape.trans (g.tape.trans (f.tape.trans h.kept.tape)),d.output.trans (g.output.trans (f.output.trans h.kept.output)),by omega,λk x i=> ?_⟩;rw[d.block k (by omega) (λe=>by have:=(h.own.lt k e).1;omega),g.block k (by omega) (zFM h.hF i x (Nat.le_refl _)),f.block k (by omega),h.kept.block k x i]
theorem FmR.leaf{op:Int}(h:I64 op):FmR Z w (.mk op zRw 0 0 []) [.int .i64 op,.string zRw,.int .i64 0,.int .i64 0,.slice none 0 0]:=by
 unfold FmR;refine⟨h,by decide,by unfold I64;omega,by unfold I64;omega,none,0,rfl,by simp,by decide,by decide,zAD.of_seq ?_⟩;unfold zAW;trivial
section
open Go.Shelf
theorem Tryz.eFmC:zC2 prog 52 5 64:=zDH (z:= .agg #[.int .i64 0,.string ⟨#[]⟩,.int .i64 0,.int .i64 0,.slice none 0 0]) (by kernel_rfl) rfl (by decide)
structure zGj (Z:zD) (w wr:World) (vd:Value) (fs:List Fm) (v:Value) (csl:List (List Value)):Prop where
 fb:Blk wr (w.heap.size+1) 52 #[.int .i64 5,.string ⟨#[]⟩,.int .i64 0,.int .i64 0,v]
 db:Blk wr w.heap.size 25 #[vd]
 own:wr.ownsRow w.heap.size 52 5 v fs.length csl.flatten
 each:zB7 (λcs f=>FmR Z w f cs) 5 fs csl
 ne:v.ownBlock≠some (w.heap.size+1)
 be:Bw w wr
theorem zGj.push{w wr j:World}(h:zGj Z w wr vd fs v csl)(g:(wr.alloc o).drew.grownBy j v.ownBlock)
  (x:j.ownsRow w.heap.size 52 5 v5 (fs.length+1) (csl.flatten++cs))(d:v5.ownBlock=v.ownBlock\/v5.ownBlock=some (wr.alloc o).drew.heap.size)(n:FmR Z w f cs):
  zGj Z w (j.setCell ⟨w.heap.size+1,4,none⟩ v5) vd (fs++[f]) v5 (csl++[cs]):=by
 have y:=h.db.lt;have hF:=h.fb.lt;have i:(wr.alloc o).drew.heap.size =wr.heap.size+1:=by show(wr.alloc o).heap.size =_;simp
 have a:v5.ownBlock≠some (w.heap.size+1):=by
  rcases d with e|e
  ·rw[e];exact h.ne
  rw[e,i];intro m;injection m with m;omega
 have u:cs.length=5:=by obtain⟨A,q,rfl⟩:=FmR.form n;rfl
 refine⟨((h.fb.alloc o).drew.grown g h.ne).set_ 4 _,((h.db.alloc o).drew.grown g (zHm h.db h.own (by decide))).far (by show w.heap.size≠w.heap.size+1;omega) _,?_,h.each.append (zB7.one n u),a,?_⟩
 ·have c:=zXL (Z:=λb=>b≠w.heap.size+1) x ((zA.refl _ _).setCell (p:=⟨w.heap.size+1,4,none⟩) (λ_ h=>h rfl) v5) (λk t e=>a (by rw[t,e]));simpa using c
 have c:Bw w (wr.alloc o).drew :=(h.be.alloc h.be.size o).drew;have s:(wr.alloc o).drew.ownsRow w.heap.size 52 5 v fs.length csl.flatten:=h.own.alloc o;exact(zAs c s g c.size (Nat.le_refl _)).setCell (p:=⟨w.heap.size+1,4,none⟩) (by show w.heap.size<=w.heap.size+1;omega) v5
theorem zGj.fm(h:zGj Z w wr vd fs v csl)(o:∀b,Z b->b<w.heap.size)(n:fs.length<=1000):
  ∃A cap,v= .slice A fs.length cap/\FmR (λb=>Z b\/w.heap.size<=b) wr (.mk 5 ⟨#[]⟩ 0 0 fs) [.int .i64 5,.string ⟨#[]⟩,.int .i64 0,.int .i64 0,.slice A fs.length cap]:=by
 obtain⟨A,cap,rfl,d,g,i⟩:=Row.of_own h.own (by decide);refine⟨A,cap,rfl,?_⟩;unfold FmR;refine⟨by unfold I64;omega,by decide,by unfold I64;omega,by unfold I64;omega,A,cap,rfl,d,by simpa[maxLen]using g,by omega,zAD.of_seq ?_⟩
 cases fs with
 |nil=>unfold zAW;trivial
 |cons p r=>
 have c:csl.flatten≠[]:=by
  intro e;have:=h.each.size;rw[e]at this;simp at this
 obtain⟨b,m,rfl,a,j⟩:=i c;exact zB7.rows (Or.inr a) (h.each.imp λcs f k=>FmR.mono (λ_ a=>Or.inl a) _ _ (FmR.keep (zA.of_below h.be) _ _ k)) j
theorem zSB{l:List Fm}(h:∀f∈l,zH f<=n):zV l<=l.length*n:=by
 induction l with
 |nil=>simp[zV]
 |cons a r ih=>
 rw[zV,List.length_cons,Nat.succ_mul];have c:=h a (by simp);have d:=ih λf b=>h f (by simp[b])
 omega
def zU2(a b:List zF)(s:List zE)(w:World)(e:Ending)(w':World):Prop:=∃t:Bool,e= .returned (.bool t)/\Bw w w'/\(t=true->zEF (zQ8 a b) 300 s 1<=300)
theorem zOy(Z:zD)(va vb vd:Value)(a b:List zF)(ds:List zE)(w:World)(ha:zn Z w va a)(hb:zn Z w vb b)(hd:Facts Z w vd ds)(hz:∀b,Z b->b<w.heap.size)(aq:a.length<=5)(ar:b.length<=5)(ag:∀x∈a,zH x.when_<=60)(ah:∀x∈b,zH x.when_<=60):
  Calls prog 27 #[va,vb,.agg #[vd]] w (zU2 a b ds w):=by
 obtain⟨A,ap,rfl,-⟩:=zj.form ha;obtain⟨A2,ao,rfl,-⟩:=zj.form hb;have HS:=hid (And.intro (λk(hk:k<a.length)=>zj.at_ ha hk) hz);have ae:=hid (And.intro (λk(hk:k<b.length)=>zj.at_ hb hk) hz);have HD:=hid hd;have aa:=hid (And.intro ag ah);have HZ:=hid hz;clear ha hb hd hz ag ah;go_enter func27,ntmps27
 go_upto_region 2 with fail
 have HC:=hid (show zGj Z w ((w.alloc (.cells #[vd] 25)).alloc (.cells #[.int .i64 5,.string ⟨#[]⟩,.int .i64 0,.int .i64 0,.slice none 0 0] 52)) vd [] (.slice none 0 0) [] from
  ⟨Blk.new' _ _ _ (by simp),(Blk.new w _ _).alloc _,World.ownsRow_nil _ _ _ _,trivial,λh=>(by cases h),((Below.refl _ _).alloc (Nat.le_refl _) _).alloc (by simp) _⟩)
 generalize (w.alloc _).alloc _=w0 at*;go_wp2_with fail
 go_loopw[8] (λiv wr=>∃(k:Nat)(v:Value)(csl:List (List Value)),k<=a.length/\iv= .int .i64 k/\zGj Z w wr vd ((a.take k).map zF.when_) v csl) (λiv _=>a.length-(intOf iv).toNat);case atStart=>exact⟨0,_,_,Nat.zero_le _,rfl,HC⟩
 case round=>
  obtain⟨k,v,csl,hk,rfl,c⟩:=hrel;obtain⟨H,d,hv,-,-,-⟩:=Row.of_own c.own (by decide);subst hv;have i:((a.take k).map zF.when_).length =k:=by simp;omega
  have B:=hid c;by_cases G:k<a.length
  ·obtain⟨gb,al,cs,rfl,V,dc,hR⟩:=HS.1 k G;obtain⟨K,m,rfl,z,-⟩:=hR.form;have R:=HS.2 gb V;obtain⟨c0,c1,c2,c3,c4,c5,c6,c7,c8,c9,N,O⟩:=zBQ (λj u hu=>(c.be.cell (p:=⟨gb,_,none⟩) R).trans (dc j u hu));have cl:=lt_of_cell c0;(have f4:wr.cell? ⟨w.heap.size+1,4,none⟩=some (.slice H (k) d):=by have h:=c.fb.at4;rw[i]at h;exact h);have fl:=c.fb.lt;have ak:=c.be.size;have L:=hid (show wr.drew.ownsRow w.heap.size 52 5 (.slice H (k) d) (k) csl.flatten from by have h:=c.own;rw[i]at h;exact h)
   have I:=hid (show ∀(F:World)(v5:Value)(o:Obj),(wr.alloc o).drew.grownBy F (Value.slice H (k) d).ownBlock ->F.ownsRow w.heap.size 52 5 v5 (k+1) (csl.flatten++[.int .i64 a[k].when_.op,.string a[k].when_.name,.int .i64 a[k].when_.cmp,.int .i64 a[k].when_.num,.slice K a[k].when_.kids.length m])->
     (v5.ownBlock=(Value.slice H (k) d).ownBlock \/v5.ownBlock=some (wr.alloc o).drew.heap.size)->∃y,zGj Z w (F.setCell ⟨w.heap.size+1,4,none⟩ v5) vd ((a.take (k+1)).map zF.when_) v5 y from λF v5 o T ho Q=>by
    have hh:=B.out;rw[i]at hh;have h2:=hh.push (by exact T) (by rw[i];exact ho) (by exact Q) z;rw[zXN G,List.map_append]
    first|exact⟨_,h2⟩|(rw[<-List.append_assoc];exact⟨_,h2⟩))
   have M:=hid (λ(F:World)(o:Obj)(T:(wr.alloc o).drew.grownBy F (Value.slice H (k) d).ownBlock)=>(c.fb.alloc o).drew.grown T (by have h:=c.ne;rw[i]at h;exact h));(have aj:((k:Nat):Int)<(a.length:Int):=by omega);clear c dc hR z B HC i;generalize a[k]=x at*;obtain⟨id,au,kd,tg,⟨op,X,P,Y,kids⟩,fr,un,wi⟩:=x;simp only[Fm.op,Fm.name,Fm.cmp,Fm.num,Fm.kids]at I c0 c1 c2 c3 c4 c5 c6 c7 c8 c9 N O;generalize kids.length=W at*;go_wp2;go_region_law(refine zEt rfl (.tmp 18) (.tmp 24) _ rfl underlying50 Tryz.eFmC rfl (L.alloc _) rfl (news:=[.int .i64 op,.string X,.int .i64 P,.int .i64 Y,.slice K W m]) rfl (zNR (cs:=[.int .i64 op,.string X,.int .i64 P,.int .i64 Y,.slice K W m]) (t:=52) (g:=wr.heap.size) (by have:=Blk.new wr 52 #[.int .i64 op,.string X,.int .i64 P,.int .i64 Y,.slice K W m];exact this.drew)) (by simp[Value.oneCell']) (by unfold maxLen;omega) (by omega) (by show w.heap.size<=(wr.alloc _).heap.size;simp;omega) ?_;intro v5 F s E C;obtain⟨g5,af,U⟩:=zBc s;subst U;have D:=M _ _ E;have d4:=D.at4;have d5:=D.frozen 4;have d6:=D.lt)
   all_goals
    obtain⟨y,J⟩:=I _ _ _ E s C;have HN:=hid J;clear J s E C;(go_wp2_with fail);go_roundw;(case rel=>exact⟨k+1,_,y,by omega,by go_num,HN⟩);case measure=>simp[intOf];omega
  obtain rfl:k=a.length:=by omega
  rename World=>w1
  have ad:=hid (show zGj Z w w1 vd (a.map zF.when_) (.slice H a.length d) csl from by have h:=B.out;rw[List.take_length]at h;simpa using h);clear c B HC i G hk;go_wp2_with fail
  go_loopw[9] (λiv wr=>∃(k:Nat)(v:Value)(csl:List (List Value)),k<=b.length/\iv= .int .i64 k/\zGj Z w wr vd ((a.map zF.when_)++((b.take k).map zF.when_)) v csl) (λiv _=>b.length-(intOf iv).toNat);case atStart=>exact⟨0,_,_,Nat.zero_le _,rfl,(by simpa using ad.out)⟩
  case round=>
   obtain⟨k,v,csl,hk,rfl,c⟩:=hrel;obtain⟨H,d,hv,-,-,-⟩:=Row.of_own c.own (by decide);subst hv;(have i:((a.map zF.when_)++((b.take k).map zF.when_)).length =a.length+k:=by simp;omega);have B:=hid c;by_cases G:k<b.length
   ·obtain⟨gb,al,cs,rfl,V,dc,hR⟩:=ae.1 k G;obtain⟨K,m,rfl,z,-⟩:=hR.form;have R:=ae.2 gb V;obtain⟨c0,c1,c2,c3,c4,c5,c6,c7,c8,c9,N,O⟩:=zBQ (λj u hu=>(c.be.cell (p:=⟨gb,_,none⟩) R).trans (dc j u hu));have cl:=lt_of_cell c0;(have f4:wr.cell? ⟨w.heap.size+1,4,none⟩=some (.slice H (a.length+k) d):=by have h:=c.fb.at4;rw[i]at h;exact h);have fl:=c.fb.lt;have ak:=c.be.size;have L:=hid (show wr.drew.ownsRow w.heap.size 52 5 (.slice H (a.length+k) d) (a.length+k) csl.flatten from by have h:=c.own;rw[i]at h;exact h)
    have I:=hid (show ∀(F:World)(v5:Value)(o:Obj),(wr.alloc o).drew.grownBy F (Value.slice H (a.length+k) d).ownBlock ->F.ownsRow w.heap.size 52 5 v5 (a.length+k+1) (csl.flatten++[.int .i64 b[k].when_.op,.string b[k].when_.name,.int .i64 b[k].when_.cmp,.int .i64 b[k].when_.num,.slice K b[k].when_.kids.length m])->
      (v5.ownBlock=(Value.slice H (a.length+k) d).ownBlock \/v5.ownBlock=some (wr.alloc o).drew.heap.size)->∃y,zGj Z w (F.setCell ⟨w.heap.size+1,4,none⟩ v5) vd ((a.map zF.when_)++((b.take (k+1)).map zF.when_)) v5 y from λF v5 o T ho Q=>by
     have hh:=B.out;rw[i]at hh;have h2:=hh.push (by exact T) (by rw[i];exact ho) (by exact Q) z;rw[zXN G,List.map_append]
     first|exact⟨_,h2⟩|(rw[<-List.append_assoc];exact⟨_,h2⟩))
    have M:=hid (λ(F:World)(o:Obj)(T:(wr.alloc o).drew.grownBy F (Value.slice H (a.length+k) d).ownBlock)=>(c.fb.alloc o).drew.grown T (by have h:=c.ne;rw[i]at h;exact h));(have aj:((k:Nat):Int)<(b.length:Int):=by omega);clear c dc hR z B i;generalize b[k]=x at*;obtain⟨id,au,kd,tg,⟨op,X,P,Y,kids⟩,fr,un,wi⟩:=x;simp only[Fm.op,Fm.name,Fm.cmp,Fm.num,Fm.kids]at I c0 c1 c2 c3 c4 c5 c6 c7 c8 c9 N O;generalize kids.length=W at*;go_wp2;go_region_law(refine zEt rfl (.tmp 34) (.tmp 40) _ rfl underlying50 Tryz.eFmC rfl (L.alloc _) rfl (news:=[.int .i64 op,.string X,.int .i64 P,.int .i64 Y,.slice K W m]) rfl (zNR (cs:=[.int .i64 op,.string X,.int .i64 P,.int .i64 Y,.slice K W m]) (t:=52) (g:=wr.heap.size) (by have:=Blk.new wr 52 #[.int .i64 op,.string X,.int .i64 P,.int .i64 Y,.slice K W m];exact this.drew)) (by simp[Value.oneCell']) (by unfold maxLen;omega) (by omega) (by show w.heap.size<=(wr.alloc _).heap.size;simp;omega) ?_;intro v5 F s E C;obtain⟨g5,af,U⟩:=zBc s;subst U;have D:=M _ _ E;have d4:=D.at4;have d5:=D.frozen 4;have d6:=D.lt)
    all_goals
     obtain⟨y,J⟩:=I _ _ _ E s C;have HN:=hid J;clear J s E C;(go_wp2_with fail);go_roundw;(case rel=>exact⟨k+1,_,y,by omega,by go_num,HN⟩);case measure=>simp[intOf];omega
   (obtain rfl:k=b.length:=by omega);obtain⟨K,m,hv,z⟩:=c.fm HZ (by rw[i];omega);rw[i]at hv z;injection hv with q1 _ q2;subst q1 q2
   have ac:=hid (zNv (λb=>Z b\/w.heap.size<=b) Z (Fm.mk 5 ⟨#[]⟩ 0 0 (a.map zF.when_++(b.take b.length).map zF.when_)) _ vd ds 300 wr z (HD.keep (zA.of_below c.be)) (by
    rw[List.take_length];show zH (Fm.mk 5 ⟨#[]⟩ 0 0 (a.map zF.when_++b.map zF.when_))<=1000;rw[zH]
    have h1:=zSB (l:=a.map zF.when_++b.map zF.when_) (n:=60) (λf hf=>by
     rcases List.mem_append.1 hf with hf|hf
     ·obtain⟨x,hx,rfl⟩:=List.mem_map.1 hf;exact aa.1 x hx
     obtain⟨x,hx,rfl⟩:=List.mem_map.1 hf;exact aa.2 x hx)
    rw[List.length_append,List.length_map,List.length_map]at h1
    omega) (by decide) (by decide))
   rw[List.take_length]at ac;have HQ:zEF (zQ8 a b) 300 ds 1=zEF (Fm.mk 5 ⟨#[]⟩ 0 0 (a.map zF.when_++b.map zF.when_)) 300 ds 1:=rfl;have HQ:=hid HQ;have f0:=c.fb.at0;have f1:=c.fb.at1;have f2:=c.fb.at2;have f3:=c.fb.at3;have f4:=c.fb.at4;have fl:=c.fb.lt;have d0:=c.db.at0;have dl:=c.db.lt;have ab:=hid c.be;generalize zEF (Fm.mk 5 ⟨#[]⟩ 0 0 (a.map zF.when_++b.map zF.when_)) 300 ds 1=q at*;clear z c B;(go_wp2_with fail);refine ac.mono ?_;rintro e w2 ⟨rfl,hb⟩;clear f0 f1 f2 f3 f4 fl d0 dl;have ai:=hid (ab.trans (hb.mono ab.size));(go_wp2_with fail);go_ret;exact⟨decide (q<=300),rfl,ai.out,λh=>by rw[HQ.out];exact of_decide_eq_true h⟩
end
section
open Go.Shelf
structure zU5 (a b:List zF) (s:zM):Prop where
 a5:a.length<=5
 b5:b.length<=5
 fa:∀x∈a,zH x.when_<=60
 fb:∀x∈b,zH x.when_<=60
 d:s.dom.length<=20
 n:s.auths.length<=8
 c:zEF (zQ8 a b) 300 s.dom 1<=300
def zU6(a b:List zF)(s:zM)(w:World)(e:Ending)(w':World):Prop:=∃t:Bool,e= .returned (.bool t)/\Bw w w'/\(t=true->zU5 a b s)
theorem zSC(Z:zD)(U lb vd va vz vc:Value)(a b:List zF)(s:zM)(w:World)(T:zn Z w U a)(g:zn Z w lb b)(h:zBq Z w vd va vz vc s)(m:∀b,Z b->b<w.heap.size):
  Calls prog 11 #[U,lb,.agg #[vd,va,vz,vc,.int .i64 s.signed,.int .i64 s.now]] w (zU6 a b s w):=by
 have B:=hid (λW(i:Bw w W)=>zM3 Z U a 12 W (zn.keep T (.of_below_lt i λb _ g=>m b g)) (λb g=>Nat.lt_of_lt_of_le (m b g) i.size));have C:=hid (λW(i:Bw w W)=>zM3 Z lb b 12 W (zn.keep g (.of_below_lt i λb _ g=>m b g)) (λb g=>Nat.lt_of_lt_of_le (m b g) i.size));have D:=hid (λW(i:Bw w W)=>zOt Z vd va vz vc s W (h.keep (.of_below_lt i λb _ g=>m b g)) (λb g=>Nat.lt_of_lt_of_le (m b g) i.size));have E:=hid (λW(i:Bw w W)=>zOy Z U lb vd a b s.dom W (zn.keep T (.of_below_lt i λb _ g=>m b g)) (zn.keep g (.of_below_lt i λb _ g=>m b g)) (h.d.keep (.of_below_lt i λb _ g=>m b g)) (λb g=>Nat.lt_of_lt_of_le (m b g) i.size));obtain⟨LA,ai,rfl,al⟩:=zj.form T;obtain⟨LB,aj,rfl,ao⟩:=zj.form g;obtain⟨Y,dcap,rfl⟩:∃V j,vd= .slice V s.dom.length j:=by obtain⟨⟨V,j,e,_⟩,_⟩:=h.d;exact⟨V,j,e⟩
 obtain⟨NA,n,rfl,-,-,ap⟩:=h.a.form;obtain⟨ZA,o,rfl,aq⟩:=zj.form h.z;obtain⟨X,k,rfl,ak⟩:=zj.form h.c;clear h m T g;have bk:=Blk.new w 30 #[.slice Y s.dom.length dcap,.slice NA s.auths.length n,.slice ZA s.zones.length o,.slice X s.cases.length k,.int .i64 s.signed,.int .i64 s.now];have M:=zG w (.cells #[.slice Y s.dom.length dcap,.slice NA s.auths.length n,.slice ZA s.zones.length o,.slice X s.cases.length k,.int .i64 s.signed,.int .i64 s.now] 30);go_enter func11,ntmps11
 go_upto_region 1 with fail
 generalize w.alloc _=w0 at*;have HX:=hid bk;have L:=hid M;clear bk M;by_cases h1:a.length<=5
 ·by_cases h2:b.length<=5
  ·have R:=hid (And.intro h1 h2);have q:=B w0 L.out;clear B;have q:=hid q;(go_wp2_with fail);refine q.mono ?_;rintro e w2 ⟨t1,rfl,f,N⟩;have I:=hid N;have t:=hid (zC L f);have y:=hid (HX.below f HX.lt);clear f N HX L q
   cases t1 with
   |false=>
    (go_wp2_with fail);go_ret;exact⟨false,rfl,t.out,λh=>by cases h⟩
   |true=>
   have F:=hid (C w2 t);clear C;(go_wp2_with fail);refine F.mono ?_;rintro e w3 ⟨t2,rfl,f,O⟩;have J:=hid O;have u:=hid (zC t f);have x:=hid (y.below f y.lt);clear f O y t F
   cases t2 with
   |false=>
    (go_wp2_with fail);go_ret;exact⟨false,rfl,u.out,λh=>by cases h⟩
   |true=>
   have G:=hid (D w3 u);obtain⟨q0,ac,q1,ad,q2,ae,q3,af,q4,ag,q5,ah,ql⟩:=x.out.d6;clear D;(go_wp2_with fail);refine G.mono ?_;rintro e w4 ⟨t3,rfl,f,P⟩;have K:=hid P;have v:=hid (zC u f);have A:=hid (x.below f x.lt);clear f P x u G q0 q1 q2 q3 q4 q5 ac ad ae af ag ah ql;have d0:=A.at0;have dl:=A.lt
   cases t3 with
   |false=>
    (go_wp2_with fail);go_ret;exact⟨false,rfl,v.out,λh=>by cases h⟩
   |true=>
   have H:=hid (E w4 v R.1 R.2 (I (by trivial)).2 (J (by trivial)).2);clear E;(go_wp2_with fail);refine H.mono ?_;rintro e w5 ⟨t4,rfl,f,Q⟩;have aa:=hid Q;have ab:=hid (zC v f);clear f Q A v H d0 dl;(go_wp2_with fail);go_ret;exact⟨t4,rfl,ab.out,λh=>⟨R.1,R.2,(I (by trivial)).2,(J (by trivial)).2,(K (by trivial)).1,(K (by trivial)).2,aa h⟩⟩
  go_wp2_with fail
  go_ret;exact⟨false,rfl,L.out,λh=>by cases h⟩
 go_wp2_with fail
 go_ret;exact⟨false,rfl,L.out,λh=>by cases h⟩
end
end Go.Proofs.YtommaegelgilnaaGreatDoor
