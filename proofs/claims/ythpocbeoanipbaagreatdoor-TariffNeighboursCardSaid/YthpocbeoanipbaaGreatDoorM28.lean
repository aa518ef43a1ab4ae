/- Texts W39 W40 W41 W42 W43. -/
import Derived.Test.YthpocbeoanipbaaGreatDoorM24
import Derived.Test.YthpocbeoanipbaaGreatDoorM23
set_option linter.all false
namespace Go.Proofs.YthpocbeoanipbaaGreatDoor
open Go.RowKit Go.Proofs.Tryz
set_option maxHeartbeats 8000000
set_option maxRecDepth 100000
variable{F F' Z Z':zE}{W w w6:World}{all:List zB}{b:Nat}{ds:List zC}{f:Fm}{kids:List Int}{st st':GSt}{vd vk:Value}
def kvG(d:List (List UInt8 × Int)):List (ByteArray × Value):=d.map λp=>(⟨p.1.toArray⟩,.int .i64 p.2)
theorem bytes_inj{k l:List UInt8}(h:(⟨k.toArray⟩:ByteArray)=⟨l.toArray⟩):k=l:=by
 injection h with h;simpa using congrArg Array.toList h
theorem zQ6:∀(d:List (List UInt8 × Int))(k:List UInt8),zg (kvG d) ⟨k.toArray⟩=(kvI d k).map (.int .i64)
 |[],_=>rfl
 |p::r,k=>by
  have ih:=zQ6 r k;unfold kvG at ih⊢;rw[List.map_cons,zg,kvI];by_cases h:k=p.1
  ·rw[if_pos (by rw[h]),if_pos h];rfl
  ·rw[if_neg (λe=>h (bytes_inj e)),if_neg h,ih]
theorem zQ7:∀(d:List (List UInt8 × Int))(k:List UInt8)(v:Int),zAU (kvG d) ⟨k.toArray⟩ (.int .i64 v)=kvG (zCh d k v)
 |[],_,_=>rfl
 |p::r,k,v=>by
  have ih:=zQ7 r k v;unfold kvG at ih⊢;rw[List.map_cons,zAU,zCh];by_cases h:k=p.1
  ·rw[if_pos (by rw[h]),if_pos h];rfl
  ·rw[if_neg (λe=>h (bytes_inj e)),if_neg h,List.map_cons,ih]
mutual
theorem zJu{ds:List zC}{nm:ByteArray}:∀f:Fm,okF ds f->∀n∈zAJ nm f,0<=n/\n<=1000000
 | .mk op nm' cm nu kids,h,n,a=>by
  have c:=zCz h;obtain⟨_,b,_⟩:=zGD h;rw[zAJ]at a;rcases List.mem_append.1 a with a|a
  ·split at a
   ·rename_i h3;simp at a;subst a;have:=(zEK c.1).2 h3.1;exact⟨this.1,this.2.1⟩
   ·simp at a
  ·exact zJN kids b n a
theorem zJN{ds:List zC}{nm:ByteArray}:∀l:List Fm,zDy ds l->∀n∈zAF nm l,0<=n/\n<=1000000
 |[],_,n,a=>by simp[zAF]at a
 |k::r,h,n,a=>by
  rw[zCo]at h;rw[zAF]at a;rcases List.mem_append.1 a with a|a
  ·exact zJu k h.1 n a
  ·exact zJN r h.2 n a
end
structure GV where
 Mv:Nat
 Fv:Nat
 Dv:Nat
 Nv:Nat
 Gv:Nat
 M:Nat
 db:Nat
def GV.var(c:GV)(b:Nat):Prop:=b=c.Mv\/b=c.Dv\/b=c.Nv\/b=c.Gv
def GV.fn(c:GV):Value:= .func (.func 104) #[] #[.pointer (some ⟨c.Mv,0,none⟩),.pointer (some ⟨c.Fv,0,none⟩),.pointer (some ⟨c.Dv,0,none⟩),.pointer (some ⟨c.Nv,0,none⟩),.pointer (some ⟨c.Gv,0,none⟩)]
def GV.kept(c:GV)(F:zE):zE:=λb=>¬F b/\b≠c.db/\b≠c.Fv
structure GrW (c:GV) (vd:Value) (w:World) (st:GSt) (F Z:zE):Prop where
 mv:One w c.Mv (.pointer (some ⟨c.M,0,none⟩))
 dv:One w c.Dv vd
 nv:One w c.Nv (.map (some c.db))
 gv:One w c.Gv c.fn
 fv:One w c.Fv (.bool st.full)
 mkr:MkS w c.M st.all F Z
 done:zW encS w c.db (kvG st.done)
 var:∀b,c.var b->c.kept F b
 fF:¬F c.Fv
 dF:¬F c.db
 fd:c.Fv≠c.db
 fZ:¬Z c.Fv
 dZ:¬Z c.db
section grw
variable {c:GV} {vd:Value} {w w' W:World} {st:GSt} {F Z F' Z':zE}
theorem GrW.keep(h:GrW c vd w st F Z)(a:zA (λb=>F b\/Z b\/c.var b\/b=c.Fv\/b=c.db) w w'):GrW c vd w' st F Z:=by
 have v:∀b,c.var b->(λb=>F b\/Z b\/c.var b\/b=c.Fv\/b=c.db) b:=λb d=>Or.inr (Or.inr (Or.inl d))
 exact⟨h.mv.keep a (v _ (Or.inl rfl)),h.dv.keep a (v _ (Or.inr (Or.inl rfl))),h.nv.keep a (v _ (Or.inr (Or.inr (Or.inl rfl)))),h.gv.keep a (v _ (Or.inr (Or.inr (Or.inr rfl)))),
  h.fv.keep a (Or.inr (Or.inr (Or.inr (Or.inl rfl)))),h.mkr.keep (a.mono λb _ d=>d.imp id Or.inl),h.done.of_block (a.block c.db h.done.lt (Or.inr (Or.inr (Or.inr (Or.inr rfl))))),h.var,h.fF,h.dF,h.fd,h.fZ,h.dZ⟩
theorem GrW.below(h:GrW c vd w st F Z)(a:Bw w w'):GrW c vd w' st F Z:=h.keep (.of_below a)
theorem GrW.lt(h:GrW c vd w st F Z):(∀b,c.var b->b<w.heap.size)/\c.Fv<w.heap.size/\c.db<w.heap.size:=
 ⟨λb a=>by rcases a with rfl|rfl|rfl|rfl;exact h.mv.lt;exact h.dv.lt;exact h.nv.lt;exact h.gv.lt,h.fv.lt,h.done.lt⟩
theorem GrW.made(h:GrW c vd w st F Z)(e:Bw w W)(j:MkS w' c.M all F' Z')(hF:∀b,F' b->F b\/W.heap.size<=b)(g:∀b,Z' b->Z b\/W.heap.size<=b)(f:zA (λb=>¬F b) W w'):GrW c vd w' ⟨all,st.done,st.full⟩ F' Z':=by
 have d:=h.below e;have i:=h.lt;have k:=e.size
 refine⟨d.mv.keep f (h.var _ (Or.inl rfl)).1,d.dv.keep f (h.var _ (Or.inr (Or.inl rfl))).1,d.nv.keep f (h.var _ (Or.inr (Or.inr (Or.inl rfl)))).1,d.gv.keep f (h.var _ (Or.inr (Or.inr (Or.inr rfl)))).1,d.fv.keep f h.fF,j,
  d.done.of_block (f.block c.db d.done.lt h.dF),λb e=>⟨λa=> ?_,(h.var b e).2⟩,λa=> ?_,λa=> ?_,h.fd,λa=> ?_,λa=> ?_⟩
 ·rcases hF b a with a|a
  ·exact(h.var b e).1 a
  ·have:=i.1 b e;omega
 ·rcases hF _ a with a|a
  ·exact h.fF a
  ·omega
 ·rcases hF _ a with a|a
  ·exact h.dF a
  ·omega
 ·rcases g _ a with a|a
  ·exact h.fZ a
  ·omega
 ·rcases g _ a with a|a
  ·exact h.dZ a
  ·omega
theorem GrW.setFull(h:GrW c vd w st F Z)(b:Bool):GrW c vd (w.setCell ⟨c.Fv,0,none⟩ (.bool b)) ⟨st.all,st.done,b⟩ F Z:=by
 have d:zA (λb=>b≠c.Fv) w (w.setCell ⟨c.Fv,0,none⟩ (.bool b)):=(zA.refl _ _).setCell (λ_ h=>h rfl) _;have v:=λb a=>(h.var b a).2.2
 exact⟨h.mv.keep d (v _ (Or.inl rfl)),h.dv.keep d (v _ (Or.inr (Or.inl rfl))),h.nv.keep d (v _ (Or.inr (Or.inr (Or.inl rfl)))),h.gv.keep d (v _ (Or.inr (Or.inr (Or.inr rfl)))),
  h.fv.set_ _,h.mkr.keep (d.mono λb _ a e=>by subst e;rcases a with a|a;exact h.fF a;exact h.fZ a),h.done.of_block (d.block c.db h.done.lt h.fd.symm),h.var,h.fF,h.dF,h.fd,h.fZ,h.dZ⟩
theorem GrW.setDone(h:GrW c vd w st F Z){d:List (List UInt8 × Int)}(g:zW encS w' c.db (kvG d))(f:zA (λb=>b≠c.db) w w'):GrW c vd w' ⟨st.all,d,st.full⟩ F Z:=by
 have v:=λb a=>(h.var b a).2.1
 exact⟨h.mv.keep f (v _ (Or.inl rfl)),h.dv.keep f (v _ (Or.inr (Or.inl rfl))),h.nv.keep f (v _ (Or.inr (Or.inr (Or.inl rfl)))),h.gv.keep f (v _ (Or.inr (Or.inr (Or.inr rfl)))),
  h.fv.keep f h.fd,h.mkr.keep (f.mono λb _ a e=>by subst e;rcases a with a|a;exact h.dF a;exact h.dZ a),g,h.var,h.fF,h.dF,h.fd,h.fZ,h.dZ⟩
end grw
def zF3(c:GV)(vd:Value)(w:World)(F Z:zE)(r:Int × GSt)(e:Ending)(w':World):Prop:=
 e= .returned (.int .i64 r.1)/\(∃F' Z',GrW c vd w' r.2 F' Z'/\(∀b,F' b->F b\/w.heap.size<=b)/\(∀b,Z' b->Z b\/w.heap.size<=b))/\zA (c.kept F) w w'
structure zDb (c:GV) (ds:List zC) (Zd:zE) (D:Option Addr) (dcap B0:Nat) (w:World) (st:GSt) (F Z Zf:zE) (f:Fm) (cs:List Value):Prop where
 mem:GrW c (.slice D ds.length dcap) w st F Z
 fm:FmR Zf w f cs
 offF:∀b,Zf b->c.kept F b/\b<w.heap.size
 d:Facts Zd w (.slice D ds.length dcap) ds
 offD:∀b,Zd b->c.kept F b/\b<w.heap.size
 tab:zAD B0 w
 base:B0<=w.heap.size/\(∀b,F b->B0<=b)/\B0<=c.db/\B0<=c.Fv
 ok:okF ds f
 size:zG f<=200
 wst:WSt st
 len:inn st.all<=4000+ds.length
 dom:zN ds=true
theorem zBT(h:zN ds=true):ds.length<=60:=by
 unfold zN at h;simp only[Bool.and_eq_true,decide_eq_true_eq]at h;exact h.2
theorem zDb.all_len{c:GV}{Zd:zE}{D:Option Addr}{a b:Nat}{F Z Zf:zE}{cs:List Value}(h:zDb c ds Zd D a b w st F Z Zf f cs):st.all.length<=4062:=by
 have d:=h.wst.tab.len;have e:=h.len;have g:=zBT h.dom;omega
theorem zTM{c:GV}{vd:Value}{w W w':World}{st:GSt}{F Z:zE}{b:Bool}{e:Ending}(h:GrW c vd w st F Z)(a:Bw w W)(i:zCW W c.M F (λb=>Z b\/False) (zo st.all ⟨b,0,[],[]⟩) e w'):
  zF3 c vd w F Z (zBd b st.full st) e w':=by
 obtain⟨he,⟨F',g,d⟩,f⟩:=i;have j:=a.size;refine⟨he,⟨F',_,h.made a g d (λb a=>a.imp id λh=>h.elim) f,λb a=>(d b a).imp id λh=>by omega,λb a=>a.imp id λh=>h.elim⟩,(zA.of_below a).trans (f.mono λb _ a=>a.1)⟩
theorem zNB(w:World)(F:zE)(b:Bool):zSa w F (λ_=>False) ⟨b,0,[],[]⟩ [.bool b,.int .i64 0,.slice none 0 0,.slice none 0 0]:=
 ⟨⟨_,_,rfl,by show I64 0;constructor<;>omega,zK.nil _ _,zK.nil _ _⟩,λb h=>h.elim,by simp,by simp⟩
theorem Tryz.egBuild1:∀args w,(callFunc 104 args).run prog w= .ok (.enter 104 args) w:=enters_of func104 (by kernel_rfl) rfl
abbrev GV.args(c:GV)(cs:List Value)(i:Nat):Array Value:=#[.agg cs.toArray,.int .i64 i,.pointer (some ⟨c.Mv,0,none⟩),.pointer (some ⟨c.Fv,0,none⟩),.pointer (some ⟨c.Dv,0,none⟩),.pointer (some ⟨c.Nv,0,none⟩),.pointer (some ⟨c.Gv,0,none⟩)]
section
variable {c:GV} {ds:List zC} {Zd:zE} {D:Option Addr} {dcap B0:Nat} {w:World} {st:GSt} {F Z Zf:zE} {f:Fm} {cs:List Value}
theorem zDb.node(h:zDb c ds Zd D dcap B0 w st F Z Zf f cs)(b:Bool)(a:Bw w W):
  Calls prog 100 #[.pointer (some ⟨c.M,0,none⟩),.agg #[.bool b,.int .i64 0,.slice none 0 0,.slice none 0 0]] W (zCW W c.M F (λb=>Z b\/False) (zo st.all ⟨b,0,[],[]⟩)):=
 zGv c.M st.all F Z (λ_=>False) ⟨b,0,[],[]⟩ [.bool b,.int .i64 0,.slice none 0 0,.slice none 0 0] W (h.mem.mkr.below a) (zNB W F b) (by have:=h.all_len;omega) ((h.tab.on (a.mono h.base.1)).mono (by have:=h.base.1;have:=a.size;omega))
theorem zNj(i:Nat)(h:zDb c ds Zd D dcap B0 w st F Z Zf f cs)(u:f.op=1\/f.op=2):
  Calls prog 104 (c.args cs i) w (zF3 c (.slice D ds.length dcap) w F Z (zBd (decide (f.op=1)) st.full st)):=by
 have m:=hid (λ(b:Bool)(W w':World)(e:Ending)(j:Bw w W) a=> @zTM c (.slice D ds.length dcap) w W w' st F Z b e h.mem j a);have k:=hid (λ(b:Bool)(W:World)(j:Bw w W)=>h.node b j);obtain⟨A,n,rfl⟩:=FmR.form h.fm;have v:=h.mem.mv.cell;have s:=h.mem.mv.lt;have d:=hid (λo=>zF w o);clear h;unfold GV.args;generalize f.op=op at*;by_cases q:op=1
 ·subst q;go_enter func104,ntmps104
  go_wp2_with fail
  refine(k.out true _ (d.out _)).mono ?_;intro e t a;have g:=hid (m.out true _ _ _ (d.out _) a);obtain⟨rfl,-⟩:=a;go_wp2;go_ret;exact g.out
 ·obtain rfl:op=2:=by omega
  go_enter func104,ntmps104
  go_wp2_with fail
  refine(k.out false _ (d.out _)).mono ?_;intro e t a;have g:=hid (m.out false _ _ _ (d.out _) a);obtain⟨rfl,-⟩:=a;go_wp2;go_ret;exact g.out
theorem MkS.all_cell{M:Nat}(h:MkS w M all F Z):∃A a,w.cell? ⟨M,0,none⟩=some (.slice A all.length a)/\M<w.heap.size:=by
 obtain⟨⟨v,f,c,b,d,-⟩,e,-⟩:=h;obtain⟨A,a,rfl,-⟩:=Row.of_own d (by decide);exact⟨A,a,b.cell 0,b.lt⟩
theorem zRt{W w':World}{b a:Bool}{e:Ending}{vd:Value}(h:GrW c vd W ⟨st.all,st.done,a⟩ F Z)(i:zA (c.kept F) w W)(k:zCW W c.M F (λb=>Z b\/False) (zo st.all ⟨b,0,[],[]⟩) e w'):
  zF3 c vd w F Z (zBd b a st) e w':=by
 obtain⟨he,⟨F',j,f⟩,g⟩:=k;have m:=i.size;refine⟨he,⟨F',_,GrW.made h (Below.refl _ _) j f (λb d=>d.imp id λh=>h.elim) g,λb d=>(f b d).imp id λh=>by omega,λb d=>d.imp id λh=>h.elim⟩,i.trans (g.mono λb _ d=>d.1)⟩
theorem zL1(o:Obj)(u:Value):zA (c.kept F) w ((w.setCell ⟨c.Fv,0,none⟩ u).alloc o):=((zA.refl _ _).setCell (λ_ h=>h.2.2 rfl) u).alloc o
theorem zDb.belowB(h:zDb c ds Zd D dcap B0 w st F Z Zf f cs)(a:zA (c.kept F) w W):Below B0 w W:=
 ⟨a.os,a.tape,a.output,a.size,λb e=>a.block b (by have:=h.base.1;omega) ⟨λd=>by have:=h.base.2.1 b d;omega,by have:=h.base.2.2.1;omega,by have:=h.base.2.2.2;omega⟩⟩
theorem zDb.node2(h:zDb c ds Zd D dcap B0 w st F Z Zf f cs)(b a:Bool)(e:GrW c vd W ⟨st.all,st.done,a⟩ F Z)(d:zA (c.kept F) w W):
  Calls prog 100 #[.pointer (some ⟨c.M,0,none⟩),.agg #[.bool b,.int .i64 0,.slice none 0 0,.slice none 0 0]] W (zCW W c.M F (λb=>Z b\/False) (zo st.all ⟨b,0,[],[]⟩)):=
 zGv c.M st.all F Z (λ_=>False) ⟨b,0,[],[]⟩ [.bool b,.int .i64 0,.slice none 0 0,.slice none 0 0] W e.mkr (zNB W F b) (by have:=h.all_len;omega) ((h.tab.on (h.belowB d)).mono (by have:=h.base.1;have:=d.size;omega))
theorem zNk(i:Nat)(h:zDb c ds Zd D dcap B0 w st F Z Zf f cs)(U:¬(f.op=1\/f.op=2))(Q:i<=ds.length)(v:(st.full||decide (4000<st.all.length))=true\/i=ds.length):
  Calls prog 104 (c.args cs i) w (zF3 c (.slice D ds.length dcap) w F Z (zBd false (st.full||decide (4000<st.all.length)) st)):=by
 have K:=hid (λ(o:Obj)(b:Bool)=>(h.mem.setFull b).below (zF _ o));have I:=hid (λ(q:Bool)(W:World) a m=>h.node2 false q (vd:= .slice D ds.length dcap) (W:=W) a m);have J:=hid (λ(q:Bool)(W w':World)(e:Ending) a m s=> @zRt c w st F Z W w' false q e (.slice D ds.length dcap) a m s);have H:=hid (λ(o:Obj)(u:Value)=> @zL1 c w F o u);obtain⟨A,d,rfl⟩:=FmR.form h.fm;obtain⟨X,N,L,x⟩:=h.mem.mkr.all_cell;have z:=h.mem.mv.cell;have k:=h.mem.mv.lt;have t:=h.mem.fv.cell;have y:=h.mem.fv.free;have j:=h.mem.fv.lt;have V:=zBT h.dom;have Y:(f.op==(1:Int))=false:=by simp;omega
 have e2:(f.op==(2:Int))=false:=by simp;omega
 clear h U;unfold GV.args;generalize f.op=op at*;generalize T:st.all.length=n at*
 cases O:st.full with
 |true=>
  rw[O]at t;clear v;go_enter func104,ntmps104
  go_upto_region 4 with(fail)
  have a:=K.out (.cells #[.int .i64 op,.string f.name,.int .i64 f.cmp,.int .i64 f.num,.slice A f.kids.length d] 40) true;have m:=H.out (.cells #[.int .i64 op,.string f.name,.int .i64 f.cmp,.int .i64 f.num,.slice A f.kids.length d] 40) (.bool true);have g:=hid (And.intro a m);have E:=(a.dv.cell);clear z k t y j L x;have z:=a.mv.cell;have k:=a.mv.lt;have C:=a.dv.lt;have t:=a.fv.cell;have j:=a.fv.lt;clear a m;generalize (w.setCell ⟨c.Fv,0,none⟩ (.bool true)).alloc (.cells #[.int .i64 op,.string f.name,.int .i64 f.cmp,.int .i64 f.num,.slice A f.kids.length d] 40)=W at*;go_wp2_with fail
  refine(I.out true _ g.out.1 g.out.2).mono ?_;intro e P s;have B:=hid (J.out true _ _ _ g.out.1 g.out.2 s);obtain⟨rfl,-⟩:=s;go_wp2;go_ret;exact B.out
 |false=>
  rw[O]at t v;rw[Bool.false_or]at v;by_cases G:4000<n
  ·(have R:decide ((4000:Int)<(n:Int))=true:=by simp;omega);(have M:decide (4000<n)=true:=by simp;omega);rw[decide_eq_true G,Bool.false_or];clear v G;(go_enter func104,ntmps104);(go_upto_region 4 with(fail));have a:=K.out (.cells #[.int .i64 op,.string f.name,.int .i64 f.cmp,.int .i64 f.num,.slice A f.kids.length d] 40) true;have m:=H.out (.cells #[.int .i64 op,.string f.name,.int .i64 f.cmp,.int .i64 f.num,.slice A f.kids.length d] 40) (.bool true);have g:=hid (And.intro a m);have E:=(a.dv.cell);clear z k t y j L x;have z:=a.mv.cell;have k:=a.mv.lt;have C:=a.dv.lt;have t:=a.fv.cell;have j:=a.fv.lt;clear a m;generalize (w.setCell ⟨c.Fv,0,none⟩ (.bool true)).alloc (.cells #[.int .i64 op,.string f.name,.int .i64 f.cmp,.int .i64 f.num,.slice A f.kids.length d] 40)=W at*;(go_wp2_with fail);refine(I.out true _ g.out.1 g.out.2).mono ?_;intro e P s;have B:=hid (J.out true _ _ _ g.out.1 g.out.2 s);obtain⟨rfl,-⟩:=s;go_wp2;go_ret;exact B.out
  ·(have R:decide ((4000:Int)<(n:Int))=false:=by simp;omega);(have M:decide (4000<n)=false:=by simp;omega);rw[decide_eq_false G]at v;rw[decide_eq_false G,Bool.false_or];(have e4:((i:Int)==(ds.length:Int))=true:=by simp at v;simp[v]);clear v G;(go_enter func104,ntmps104);(go_upto_region 4 with(fail));have a:=K.out (.cells #[.int .i64 op,.string f.name,.int .i64 f.cmp,.int .i64 f.num,.slice A f.kids.length d] 40) false;have m:=H.out (.cells #[.int .i64 op,.string f.name,.int .i64 f.cmp,.int .i64 f.num,.slice A f.kids.length d] 40) (.bool false);have g:=hid (And.intro a m);have E:=(a.dv.cell);clear z k t y j L x;have z:=a.mv.cell;have k:=a.mv.lt;have C:=a.dv.lt;have t:=a.fv.cell;have j:=a.fv.lt;clear a m;generalize (w.setCell ⟨c.Fv,0,none⟩ (.bool false)).alloc (.cells #[.int .i64 op,.string f.name,.int .i64 f.cmp,.int .i64 f.num,.slice A f.kids.length d] 40)=W at*;(go_wp2_with fail);refine(I.out false _ g.out.1 g.out.2).mono ?_;intro e P s;have B:=hid (J.out false _ _ _ g.out.1 g.out.2 s);obtain⟨rfl,-⟩:=s;go_wp2;go_ret;exact B.out
end
theorem zIt{σ:Type}(f:Int->σ->Int × σ):∀(l:List Int)(v:Int)(st:σ),zQ f (l++[v]) st=((zQ f l st).1++[(f v (zQ f l st).2).1],(f v (zQ f l st).2).2)
 |[],_,_=>rfl
 |a::l,v,st=>by
  have ih:=zIt f l v (f a st).2;rw[List.cons_append,zQ,zQ,ih];rfl
structure GrL (c:GV) (vd:Value) (w6 wr:World) (F Z:zE) (st':GSt) (kids:List Int) (vk:Value) (F' Z':zE):Prop where
 own:wr.ownsRow w6.heap.size 3 1 vk kids.length (kids.map (.int .i64))
 row:∀b,vk.ownBlock=some b->c.kept F' b/\¬Z' b/\¬c.var b
 mem:GrW c vd wr st' F' Z'
 hF:∀b,F' b->F b\/w6.heap.size<=b
 hZ:∀b,Z' b->Z b\/w6.heap.size<=b
 kept:zA (c.kept F) w6 wr
theorem GrL.start{c:GV}(h:GrW c vd w6 st F Z):GrL c vd w6 w6 F Z st [] (.slice none 0 0) F Z:=
 ⟨World.ownsRow_nil _ _ _ _,λb a=>(by cases a),h,λb a=>Or.inl a,λb a=>Or.inl a,zA.refl _ _⟩
theorem zD3{c:GV}{n m:Nat}(h:∀b,F' b->F b\/n<=b)(d:c.kept F b)(e:b<m)(f:m<=n):c.kept F' b:=
 ⟨λa=>by
  rcases h b a with a|a
  ·exact d.1 a
  ·omega,d.2⟩
theorem GrL.step{c:GV}{B wr M v n:World}{u A:Value}{r:Int × GSt}{e:Ending}{o:Obj}(h:GrL c vd B wr F Z st' kids u F' Z')(f:Bw wr M)
  (R:zF3 c vd M F' Z' r e v)(P:(v.alloc o).grownBy n u.ownBlock)(Q:n.ownsRow B.heap.size 3 1 A (kids.length+1) (kids.map (.int .i64)++[.int .i64 r.1]))(D:A.ownBlock=u.ownBlock\/A.ownBlock=some (v.alloc o).heap.size):
  ∃j m,GrL c vd B n F Z r.2 (kids++[r.1]) A j m:=by
 obtain⟨-,⟨j,m,E,q,s⟩,g⟩:=R;have H:=f.size;have U:=g.size;have t:=E.lt;have G:v.ownsRow B.heap.size 3 1 u kids.length (kids.map (.int .i64)):=zX (zX h.own (zA.of_below (Z:=λ_=>True) f) (λ_ _=>trivial)) g (λk w=>(h.row k w).1);have J:∀b,u.ownBlock=some b->b<wr.heap.size:=λb a=>(h.own.lt b a).2
 have z:∀b,u.ownBlock=some b->c.kept j b/\¬m b/\¬c.var b:=λb a=>by
  have C:=h.row b a;have N:=J b a;refine⟨zD3 q C.1 N H,λi=> ?_,C.2.2⟩;rcases s b i with i|i
  ·exact C.2.1 i
  ·omega
 have x:=E.mkr;have d:zA (λb=>u.ownBlock≠some b) v n:=((zA.refl _ _).alloc o).grown P (λk w _ i=>i w);refine⟨j,m,by simpa using Q,λb a=> ?_,E.keep (d.mono λb K a e=> ?_),λb a=> ?_,λb a=> ?_,?_⟩
 ·rcases D with e|e
  ·rw[e]at a;exact z b a
  ·rw[e]at a;injection a with a;subst a;(have I:(v.alloc o).heap.size =v.heap.size+1:=by simp);rw[I];refine⟨⟨λO=> ?_,?_,?_⟩,λi=> ?_,λV=> ?_⟩
   ·have:=x.liveF _ O;omega
   ·have:=t.2.2;omega
   ·have:=t.2.1;omega
   ·have:=x.liveZ _ i;omega
   ·have:=t.1 _ V;omega
 ·have y:=z b e;rcases a with a|a|a|a|a
  ·exact y.1.1 a
  ·exact y.2.1 a
  ·exact y.2.2 a
  ·exact y.1.2.2 a
  ·exact y.1.2.1 a
 ·rcases q b a with a|a
  ·exact h.hF b a
  ·have:=h.kept.size;exact Or.inr (by omega)
 ·rcases s b a with a|a
  ·exact h.hZ b a
  ·have:=h.kept.size;exact Or.inr (by omega)
 ·have T:=h.kept.size;have L:=d.size;refine⟨d.os.trans (g.os.trans (f.os.trans h.kept.os)),d.tape.trans (g.tape.trans (f.tape.trans h.kept.tape)),d.output.trans (g.output.trans (f.output.trans h.kept.output)),by omega,λk w i=> ?_⟩;rw[d.block k (by omega) (λe=>by have:=(h.own.lt k e).1;omega),g.block k (by omega) (zD3 h.hF i w (Nat.le_refl _)),f.block k (by omega),h.kept.block k w i]
section
open Go.Shelf
theorem zNl(i:Nat)(f:Fm):(⟨(Lib.itoa (i:Int)).toArray⟩:ByteArray)++⟨(zAs f).toArray⟩=⟨(zCe i f).toArray⟩:=by
 unfold zCe;apply ByteArray.ext;simp
theorem zPM{i:Nat}(hi:i<=100)(h:(zAs f).length <=20000):(zCe i f).length <=20021:=by
 unfold zCe;have:=Lib.itoa_length_le (i:Int) (by omega) (by omega);rw[List.length_append];omega
theorem Tryz.lookK{d:List (List UInt8 × Int)}(h:zW encS w b (kvG d))(k:List UInt8):
  (Instr.lookup 154 (.map (some b)) (.string ⟨k.toArray⟩) true).run prog w= .ok (.tuple #[(match kvI d k with|some v=> .int .i64 v|none=> .int .i64 0),.bool (kvI d k).isSome]) w:=by
 rw[Tryz.lookI h,zQ6,if_pos rfl];cases kvI d k<;>rfl
section
variable {c:GV} {ds:List zC} {Zd:zE} {D:Option Addr} {dcap B0:Nat} {w:World} {st:GSt} {F Z Zf:zE} {f:Fm} {cs:List Value}
theorem zDb.spell(h:zDb c ds Zd D dcap B0 w st F Z Zf f cs){a:World}(d:zA (c.kept F) w a):
  Calls prog 105 #[.pointer (some ⟨a.heap.size,0,none⟩),.agg cs.toArray] (a.alloc (.cells #[.pointer none,.slice none 0 0] 110)) λe w'=>
   e= .returned (.tuple #[])/\IsB a.heap.size a.heap.size (Lib.byteCells (zAs f)) w'/\Bw a w':=by
 have o:=d.size;have m:FmR (λb=>Zf b/\b<w.heap.size) a f cs:=FmR.keep (d.mono λb _ k=>(h.offF b k.1).1) _ _ (FmR.live _ _ h.fm);have g:=zHe f (zFh f h.ok) (FmR.fitF _ _ h.fm);have n:=h.size
 refine(zTG a.heap.size a.heap.size (λb=>Zf b/\b<w.heap.size) (λz q=>by omega) (zG f) f (Nat.le_refl _) cs [] _ (FmR.keep ((zA.refl _ _).alloc _) _ _ m) (by omega) (by simp;omega)
  (((h.tab.on ((h.belowB d).alloc (by have:=h.base.1;omega) _))).mono (by have:=h.base.1;omega)) (Lib.IsBuilderF.of (Lib.fresh_isBuilder _ _ _)) (by simp)).mono ?_
 rintro e w' ⟨rfl,i,j,-⟩;exact⟨rfl,by simpa using i,(zF a _).trans j⟩
theorem zRu(i:Nat)(h:zDb c ds Zd D dcap B0 w st F Z Zf f cs)(hc:¬(f.op=1\/f.op=2))(hi:i<ds.length)(hs:(st.full||decide (4000<st.all.length))=false){k:Int}(J:kvI st.done (zCe i f)=some k):
  Calls prog 104 (c.args cs i) w (zF3 c (.slice D ds.length dcap) w F Z (k,st)):=by
 simp only[Bool.or_eq_false_iff]at hs;obtain⟨H,Y⟩:=hs;have L:=hid h;have R:=hid J;have T:=hid (show(⟨st.all,st.done,false⟩:GSt)=st from by rw[<-H]);have HS:=hid (λ(o:Obj)=>(h.mem.setFull false).below (zF _ o));have HK:=hid (λ(o:Obj)=> @zL1 c w F o (.bool false));have aa:=zPM (i:=i) (f:=f) (by have:=zBT h.dom;omega) (by have:=zHe f (zFh f h.ok) (FmR.fitF _ _ h.fm);have:=h.size;omega);obtain⟨A,g,rfl⟩:=FmR.form h.fm;obtain⟨AA,ad,a0,U⟩:=h.mem.mkr.all_cell;have m0:=h.mem.mv.cell;have ac:=h.mem.mv.lt;have M:=h.mem.fv.cell;have X:=h.mem.fv.free;have v:=h.mem.fv.lt;have af:=zBT h.dom;have e1:(f.op==(1:Int))=false:=by simp;omega
 have e2:(f.op==(2:Int))=false:=by simp;omega
 have e3:decide ((4000:Int)<(st.all.length:Int))=false:=by simp at Y⊢;omega
 have e4:((i:Int)==(ds.length:Int))=false:=by simp;omega
 rw[H]at M;clear h hc J;unfold GV.args;go_enter func104,ntmps104
 go_upto_region 4 with(fail)
 have y:=HS.out (.cells #[.int .i64 f.op,.string f.name,.int .i64 f.cmp,.int .i64 f.num,.slice A f.kids.length g] 40);have hk:=HK.out (.cells #[.int .i64 f.op,.string f.name,.int .i64 f.cmp,.int .i64 f.num,.slice A f.kids.length g] 40);have K:=hid (And.intro y hk);have a:=Blk.new' (w.setCell ⟨c.Fv,0,none⟩ (.bool false)) 40 #[.int .i64 f.op,.string f.name,.int .i64 f.cmp,.int .i64 f.num,.slice A f.kids.length g] (n:=w.heap.size) (by simp[World.setCell]);clear m0 ac M X v a0 U HS HK;have d0:=y.dv.cell;have V:=y.dv.lt;have M:=y.fv.cell;have v:=y.fv.lt;have ab:w.heap.size<((w.setCell ⟨c.Fv,0,none⟩ (.bool false)).alloc (.cells #[.int .i64 f.op,.string f.name,.int .i64 f.cmp,.int .i64 f.num,.slice A f.kids.length g] 40)).heap.size :=by simp[World.setCell]
 generalize ((w.setCell ⟨c.Fv,0,none⟩ (.bool false)).alloc (.cells #[.int .i64 f.op,.string f.name,.int .i64 f.cmp,.int .i64 f.num,.slice A f.kids.length g] 40))=z at*;have P:=hid a;have b0:=a.at0;have b1:=a.at1;have b2:=a.at2;have b3:=a.at3;have b4:=a.at4;clear y hk a;go_wp2_with fail
 refine(L.out.spell K.out.2).mono ?_;rintro e w3 ⟨rfl,C,x⟩;have t:zA (c.kept F) w w3:=K.out.2.trans (.of_below x);have m:zAD z.heap.size w3:=((L.out.tab.on (L.out.belowB t)).mono (by have:=L.out.base.1;omega));have HI:=hid (zEC (B:=z.heap.size) (i:Int) w3 (by constructor<;>omega) m);have u:=hid (And.intro C x)
 have ae:∀W,(Op.stringOp .add ⟨(Lib.itoa (i:Int)).toArray⟩ ⟨(zAs f).toArray⟩).run prog W= .ok (.string ⟨(zCe i f).toArray⟩) W:=λW=>by
  rw[<-zNl];refine run_string_add_sum W _ _ ?_;have h1:=aa;unfold zCe at h1;rw[List.length_append]at h1;simp only[ByteArray.size,List.size_toArray];omega
 clear b0 b1 b2 b3 b4 d0 V M v t m C x;go_wp2_with fail
 refine HI.out.mono ?_;rintro e w4 ⟨rfl,q⟩;have s:=hid (Tryz.Builder_String_any_f z.heap.size z.heap.size (zAs f) w4 (zDH u.out.1 q) (by have:=u.out.2.size;have:=q.size;omega));have N:=hid (zD u.out.2 q);clear q;go_wp2_with fail
 refine s.out.mono ?_;rintro e w5 ⟨rfl,-,E⟩;have d:Bw z w5:=N.out.trans E;have j:=K.out.1.below d;have O:=hid d;have G:=P.out.below d ab;have n0:=j.nv.cell;have ag:=j.nv.lt;have hl:=Tryz.lookK j.done (zCe i f);simp only[R.out,Option.isSome_some]at hl;have Q:=hid j;clear E d G j s HI;go_wp2;go_ret;have I:=Q.out;rw[T.out]at I;exact⟨rfl,⟨F,Z,I,λb hb=>Or.inl hb,λb hb=>Or.inl hb⟩,K.out.2.trans (.of_below O.out)⟩
end
end
section
open Go.Shelf
def gF(rest:List zC)(i:Nat)(f:Fm)(x:zC)(v:Int)(st:GSt):Int × GSt:=zu rest (i+1) (zU x.name v f) st
def zMS(rest:List zC)(i:Nat)(f:Fm)(st:GSt)(x:zC):Int × GSt:=
 let r:=zQ (gF rest i f x) (zO f x) st;let o:=zAT r.2.all i (zO f x) r.1
 (o.1,⟨o.2,zCh r.2.done (zCe i f) o.1,r.2.full⟩)
def zTN(c:GV)(ds:List zC)(Zd:zE)(D:Option Addr)(dcap B0:Nat)(rest:List zC):Prop:=
 ∀(i:Nat)(f:Fm)(cs:List Value)(w:World)(st:GSt)(F Z Zf:zE),rest=ds.drop i->i<=ds.length->zDb c ds Zd D dcap B0 w st F Z Zf f cs->
  Calls prog 104 (c.args cs i) w (zF3 c (.slice D ds.length dcap) w F Z (zu rest i f st))
section
variable {c:GV} {ds:List zC} {Zd:zE} {D:Option Addr} {dcap B0:Nat} {w:World} {st:GSt} {F Z Zf:zE} {f:Fm} {cs:List Value}
theorem zDb.kid(h:zDb c ds Zd D dcap B0 w st F Z Zf f cs){s wr m:World}{i:List Value}{nm:ByteArray}{v:Int}(j:zA (c.kept F) w s)(e:GrL c (.slice D ds.length dcap) s wr F Z st' kids vk F' Z')
  (g:Bw wr m)(n:FmR (λb=>(Zf b/\b<w.heap.size)\/wr.heap.size<=b) m (zU nm v f) i)(x:WSt st')(u:inn st'.all<=4000+ds.length):
  zDb c ds Zd D dcap B0 m st' F' Z' (λb=>((Zf b/\b<w.heap.size)\/wr.heap.size<=b)/\b<m.heap.size) (zU nm v f) i:=by
 have q:=j.size;have y:=e.kept.size;have z:=g.size;have o:=e.mem.lt;have k:zA (c.kept F) w m:=j.trans (e.kept.trans (.of_below g))
 refine⟨e.mem.below g,FmR.live _ _ n,λb a=>⟨?_,a.2⟩,(h.d.keep (k.mono λb _ a=>(h.offD b a).1)),λb a=>⟨zD3 e.hF (h.offD b a).1 (h.offD b a).2 q,by have:=(h.offD b a).2;omega⟩,h.tab.on (h.belowB k),
  ⟨by have:=h.base.1;omega,λb a=> ?_,h.base.2.2⟩,zDz f h.ok,Nat.le_trans (zIa f) h.size,x,u,h.dom⟩
 ·rcases a.1 with a|a
  ·exact zD3 e.hF (h.offF b a.1).1 a.2 q
  ·exact⟨λt=>by have:=e.mem.mkr.liveF b t;omega,by have:=o.2.2;omega,by have:=o.2.1;omega⟩
 ·rcases e.hF b a with a|a
  ·exact h.base.2.1 b a
  ·have:=h.base.1;omega
theorem zUU(rest:List zC)(IH:zTN c ds Zd D dcap B0 rest)(i:Nat)(R:rest=ds.drop (i+1))(h:zDb c ds Zd D dcap B0 w st F Z Zf f cs)(hc:¬(f.op=1\/f.op=2))(hi:i<ds.length)(hs:(st.full||decide (4000<st.all.length))=false)(ci:kvI st.done (zCe i f)=none):
  Calls prog 104 (c.args cs i) w (zF3 c (.slice D ds.length dcap) w F Z (zMS rest i f st ds[i])):=by
 simp only[Bool.or_eq_false_iff]at hs;obtain⟨cf,de⟩:=hs;have j:=hid h;have cz:=hid ci;have bd:=hid (show(⟨st.all,st.done,false⟩:GSt)=st from by rw[<-cf]);have HS:=hid (λ(o:Obj)=>(h.mem.setFull false).below (zF _ o));have HK:=hid (λ(o:Obj)=> @zL1 c w F o (.bool false));have di:=zPM (i:=i) (f:=f) (by have:=zBT h.dom;omega) (by have:=zHe f (zFh f h.ok) (FmR.fitF _ _ h.fm);have:=h.size;omega);obtain⟨A,I,rfl⟩:=FmR.form h.fm;obtain⟨AA,dn,a0,c8⟩:=h.mem.mkr.all_cell;have m0:=h.mem.mv.cell;have bp:=h.mem.mv.lt;have f0:=h.mem.fv.cell;have dc:=h.mem.fv.free;have bf:=h.mem.fv.lt;have du:=zBT h.dom;have e1:(f.op==(1:Int))=false:=by simp;omega
 have e2:(f.op==(2:Int))=false:=by simp;omega
 have e3:decide ((4000:Int)<(st.all.length:Int))=false:=by simp at de⊢;omega
 have e4:((i:Int)==(ds.length:Int))=false:=by simp;omega
 rw[cf]at f0;clear h hc ci;unfold GV.args;go_enter func104,ntmps104
 go_upto_region 4 with(fail)
 have hg:=HS.out (.cells #[.int .i64 f.op,.string f.name,.int .i64 f.cmp,.int .i64 f.num,.slice A f.kids.length I] 40);have hk:=HK.out (.cells #[.int .i64 f.op,.string f.name,.int .i64 f.cmp,.int .i64 f.num,.slice A f.kids.length I] 40);have HG:=hid (And.intro hg hk);have s:=Blk.new' (w.setCell ⟨c.Fv,0,none⟩ (.bool false)) 40 #[.int .i64 f.op,.string f.name,.int .i64 f.cmp,.int .i64 f.num,.slice A f.kids.length I] (n:=w.heap.size) (by simp[World.setCell]);clear m0 bp f0 dc bf a0 c8 HS HK;have d0:=hg.dv.cell;have ar:=hg.dv.lt;have f0:=hg.fv.cell;have bf:=hg.fv.lt;have dm:w.heap.size<((w.setCell ⟨c.Fv,0,none⟩ (.bool false)).alloc (.cells #[.int .i64 f.op,.string f.name,.int .i64 f.cmp,.int .i64 f.num,.slice A f.kids.length I] 40)).heap.size :=by simp[World.setCell]
 generalize ((w.setCell ⟨c.Fv,0,none⟩ (.bool false)).alloc (.cells #[.int .i64 f.op,.string f.name,.int .i64 f.cmp,.int .i64 f.num,.slice A f.kids.length I] 40))=W1 at*;have cu:=hid s;have b0:=s.at0;have b1:=s.at1;have b2:=s.at2;have b3:=s.at3;have b4:=s.at4;clear hg hk s;go_wp2_with fail
 refine(j.out.spell HG.out.2).mono ?_;rintro e w3 ⟨rfl,bz,bk⟩;have a3:zA (c.kept F) w w3:=HG.out.2.trans (.of_below bk);have ao:zAD W1.heap.size w3:=((j.out.tab.on (j.out.belowB a3)).mono (by have:=j.out.base.1;omega));have HI:=hid (zEC (B:=W1.heap.size) (i:Int) w3 (by constructor<;>omega) ao);have ba:=hid (And.intro bz bk)
 have dp:∀W,(Op.stringOp .add ⟨(Lib.itoa (i:Int)).toArray⟩ ⟨(zAs f).toArray⟩).run prog W= .ok (.string ⟨(zCe i f).toArray⟩) W:=λW=>by
  rw[<-zNl];refine run_string_add_sum W _ _ ?_;have h1:=di;unfold zCe at h1;rw[List.length_append]at h1;simp only[ByteArray.size,List.size_toArray];omega
 clear b0 b1 b2 b3 b4 d0 ar f0 bf a3 ao bz bk;go_wp2_with fail
 refine HI.out.mono ?_;rintro e w4 ⟨rfl,au⟩;have az:=hid (Tryz.Builder_String_any_f W1.heap.size W1.heap.size (zAs f) w4 (zDH ba.out.1 au) (by have:=ba.out.2.size;have:=au.size;omega));have ct:=hid (zD ba.out.2 au);clear au;go_wp2_with fail
 refine az.out.mono ?_;rintro e w5 ⟨rfl,-,b8⟩;have J:Bw W1 w5:=ct.out.trans b8;have O:=HG.out.1.below J;have dt:=hid J;have t:=cu.out.below J dm;have n0:=O.nv.cell;have bq:=O.nv.lt;have hl:=Tryz.lookK O.done (zCe i f);simp only[cz.out,Option.isSome_none]at hl;have u:zA (c.kept F) w w5:=HG.out.2.trans (.of_below J);obtain⟨D',da,he,-,-,b7⟩:=j.out.d.open_;injection he with he1 he2 he3;subst he1 he3;clear he2;obtain⟨H,a,rfl,cg,cd,x0,x1,x2,x3,ae⟩:=b7 i hi;have HZ:=hid (j.out.offD H cg);have bl:zCQ ds[i]=true:=zEb j.out.dom (List.getElem_mem hi);replace x0:=u.cell (p:=⟨H,a+i*4,none⟩) HZ.out.1 x0;replace x1:=u.cell (p:=⟨H,a+i*4+1,none⟩) HZ.out.1 x1;replace x2:=u.cell (p:=⟨H,a+i*4+2,none⟩) HZ.out.1 x2;replace x3:=u.cell (p:=⟨H,a+i*4+3,none⟩) HZ.out.1 x3;have aq:=lt_of_cell x0;have b0:=t.at0;have b1:=t.at1;have b2:=t.at2;have b3:=t.at3;have b4:=t.at4;have bw:=t.lt;have d0:=O.dv.cell;have ar:=O.dv.lt;have dx:((i:Nat):Int)<(ds.length:Int):=by omega
 have dw:(0:Int)<=((i:Nat):Int):=by omega
 have ay:=hid (λ(W:World)(hW:Bw w5 W)=>zRg (λb=>Zf b/\b<w.heap.size) f ds[i] _ W
  (FmR.keep (.of_below hW) _ _ (FmR.keep (u.mono λb _ g=>(j.out.offF b g.1).1) _ _ (FmR.live _ _ j.out.fm))) (λb g=>by have:=u.size;have:=hW.size;omega) (by have:=j.out.size;omega)
  (λn hn=>zJu f j.out.ok n hn) ae (zCy bl).2.1)
 have HX:=hid (And.intro ae bl);have X:=hid (And.intro O (And.intro u t));generalize cr:ds[i]=x at*;have c6:=hid cr;clear cr b8 J t O u az HI ae bl b7 cg cd;go_wp2
 go_region_held3(λw'=>w'.cell? ⟨w.heap.size,0,none⟩=some (.int .i64 f.op)/\w'.cell? ⟨w.heap.size,1,none⟩=some (.string f.name)/\w'.cell? ⟨w.heap.size,2,none⟩=some (.int .i64 f.cmp)/\w'.cell? ⟨w.heap.size,3,none⟩=some (.int .i64 f.num)/\w'.cell? ⟨w.heap.size,4,none⟩=some (.slice A f.kids.length I)/\w'.cell? ⟨c.Dv,0,none⟩=some (.slice (some ⟨H,a,none⟩) ds.length dcap)/\w'.cell? ⟨H,a+i*4,none⟩=some (.string x.name)/\w'.cell? ⟨H,a+i*4+1,none⟩=some (.int .i64 x.kind)/\w'.cell? ⟨H,a+i*4+2,none⟩=some (.int .i64 x.lo)/\w'.cell? ⟨H,a+i*4+3,none⟩=some (.int .i64 x.hi))
  (first|exact⟨p0,p1,p2,p3,p4,p5,p6,p7,p8,p9⟩|(refine⟨?_,?_,?_,?_,?_,?_,?_,?_,?_,?_⟩<;>go_keep))
  (first
   |(go_at_call 106;refine(ay.out _ (Below.refl _ _).drew).mono ?_;rintro e w6 ⟨v6,rfl,al,G⟩;have y:=X.out.2.2.drew.below G bw;have p0:w6.cell? ⟨w.heap.size,0,none⟩=some (.int .i64 f.op):=y.cell 0;have p1:w6.cell? ⟨w.heap.size,1,none⟩=some (.string f.name):=y.cell 1;have p2:w6.cell? ⟨w.heap.size,2,none⟩=some (.int .i64 f.cmp):=y.cell 2;have p3:w6.cell? ⟨w.heap.size,3,none⟩=some (.int .i64 f.num):=y.cell 3;have p4:w6.cell? ⟨w.heap.size,4,none⟩=some (.slice A f.kids.length I):=y.cell 4;have p5:=brd G d0 ar;have p6:=brd G x0 aq;have p7:=brd G x1 aq;have p8:=brd G x2 aq;have p9:=brd G x3 aq))
 obtain⟨A6,bx,rfl,-,-,-⟩:=Row.of_own al (by decide);have V:∀Z0,zA Z0 w5 w6:=λZ0=>((zA.refl Z0 w5).drew).trans (.of_below G)
 have bm:=X.out.1.keep (V _);rw[bd.out]at bm;have ai:zA (c.kept F) w w6:=X.out.2.1.trans (V _);have a1:=zIc f x
 have af:∀v∈zO f x,I64 v:=λv hv=>by
  have g:=zCy HX.out.2;unfold zO at hv;rcases List.mem_cons.1 hv with rfl|hv
  ·constructor<;>omega
  ·have:=zBJ a1 v hv;constructor<;>omega
 have dk:(zO f x).length <=500:=by
  have h1:=zPs f x;have h2:=zOz x.name f;have h3:=j.out.size;omega
 have aj:=(zK.of_own al af (by omega)).live;have bu:=hid aj;have cw:=hid (FmR.keep (ai.mono λb _ g=>(j.out.offF b g.1).1) _ _ (FmR.live _ _ j.out.fm));have ap:w.heap.size<=w5.heap.size:=X.out.2.1.size;have d4:w5.heap.size<=w6.heap.size:=G.size;have z:=hid (λb(g:w.heap.size<=b)=>(show c.kept F b from⟨λhf=>by have:=j.out.mem.mkr.liveF b hf;omega,by have:=j.out.mem.lt.2.2;omega,by have:=j.out.mem.lt.2.1;omega⟩));have ab:=hid (And.intro bm (And.intro ai (X.out.2.2.keep (V (λ_=>True)) trivial)));have bi:w6.cell? ⟨H,a+i*4,none⟩=some (.string x.name):=p6;have c0:=hid bi;have cc:=lt_of_cell bi;have df:=y.lt;clear p0 p1 p2 p3 p4 p5 p6 p7 p8 p9 b0 b1 b2 b3 b4 bw d0 ar x0 x1 x2 x3 aq hl n0 bq y bm ai a1 af aj bi V X ay G;go_wp2;go_loopw[15,77] (λvv ix wr=>∃(k:Nat)(vk:Value)(F' Z':zE),k<=(zO f x).length /\ix= .int .i64 k/\vk=vv/\GrL c (.slice (some ⟨H,a,none⟩) ds.length dcap) w6 wr F Z (zQ (gF rest i f x) ((zO f x).take k) st).2 (zQ (gF rest i f x) ((zO f x).take k) st).1 vk F' Z') (λ_ ix _=>(zO f x).length -(intOf ix).toNat);case atStart=>exact⟨0,_,F,Z,Nat.zero_le _,rfl,rfl,GrL.start ab.out.1⟩
 case round=>
  obtain⟨k,vk,F',Z',hk,rfl,rfl,m⟩:=hrel;by_cases aw:k<(zO f x).length
  ·obtain⟨vb,a9,rfl,cq,-,co⟩:=bu.out.at_ aw;(have dh:=λb(h1:w.heap.size<=b)(h2:b<w6.heap.size)=>(zD3 m.hF (z.out b h1) h2 (Nat.le_refl _):c.kept F' b));have cp:wr.cell? ⟨vb,a9+k,none⟩=some (.int .i64 (zO f x)[k]):=m.kept.cell (p:=⟨vb,a9+k,none⟩) (z.out vb (Nat.le_trans ap cq.1)) co;have d3:=lt_of_cell cp;obtain⟨AK,C,dl,-,-,-⟩:=Row.of_own m.own (by decide);have dq:=m.own;have dg:=m.kept.size;have HL:=hid m
   have E:=hid (λ(W:World)(hW:zA (λb=>c.kept F' b/\vk.ownBlock≠some b) wr W)=>(show W.cell? ⟨c.Gv,0,none⟩=some (.func (.func 104) #[] #[.pointer (some ⟨c.Mv,0,none⟩),.pointer (some ⟨c.Fv,0,none⟩),.pointer (some ⟨c.Dv,0,none⟩),.pointer (some ⟨c.Nv,0,none⟩),.pointer (some ⟨c.Gv,0,none⟩)])/\
     W.cell? ⟨w.heap.size,0,none⟩=some (.int .i64 f.op)/\W.cell? ⟨w.heap.size,1,none⟩=some (.string f.name)/\W.cell? ⟨w.heap.size,2,none⟩=some (.int .i64 f.cmp)/\W.cell? ⟨w.heap.size,3,none⟩=some (.int .i64 f.num)/\W.cell? ⟨w.heap.size,4,none⟩=some (.slice A f.kids.length I)/\
     W.cell? ⟨c.Dv,0,none⟩=some (.slice (some ⟨H,a,none⟩) ds.length dcap)/\W.cell? ⟨H,a+i*4,none⟩=some (.string x.name) from by
    (have a8:∀b,c.var b->(λb=>c.kept F' b/\vk.ownBlock≠some b) b:=λb g=>⟨m.mem.var b g,λe=>(m.row b e).2.2 g⟩);(have a7:∀b,c.kept F b->b<w6.heap.size->(λb=>c.kept F' b/\vk.ownBlock≠some b) b:=λb g aw=>⟨zD3 m.hF g aw (Nat.le_refl _),λe=>by have:=(m.own.lt b e).1;omega⟩);have s:=(ab.out.2.2.keep m.kept (z.out _ (Nat.le_refl _))).keep hW (a7 _ (z.out _ (Nat.le_refl _)) (by omega))
    exact⟨(m.mem.gv.keep hW (a8 _ (Or.inr (Or.inr (Or.inr rfl))))).cell,s.cell 0,s.cell 1,s.cell 2,s.cell 3,s.cell 4,(m.mem.dv.keep hW (a8 _ (Or.inr (Or.inl rfl)))).cell,
     hW.cell (p:=⟨H,a+i*4,none⟩) (a7 H HZ.out.1 cc) (m.kept.cell (p:=⟨H,a+i*4,none⟩) HZ.out.1 c0.out)⟩))
   subst dl;have ch:(((zO f x).take (k+1)))=(zO f x).take k++[(zO f x)[k]]:=List.take_succ_eq_append_getElem aw;have cy:=hid (show zQ (gF rest i f x) ((zO f x).take (k+1)) st=((zQ (gF rest i f x) ((zO f x).take k) st).1++[(gF rest i f x (zO f x)[k] (zQ (gF rest i f x) ((zO f x).take k) st).2).1],(gF rest i f x (zO f x)[k] (zQ (gF rest i f x) ((zO f x).take k) st).2).2) from by rw[ch,zIt]);(have dy:(k:Int)<((zO f x).length :Int):=by omega);(have a4:(zQ (gF rest i f x) ((zO f x).take k) st).1.length =k:=by rw[zC7,List.length_take];omega);have ax:=hid a4;have bv:=hid (zMD (f:=gF rest i f x) (B:=4000+rest.length) (λv st=>zHD rest _ _ st) (λv st hs=>zME rest _ _ st hs) ((zO f x).take k) st j.out.wst);clear m co ch dh cq a4;generalize (zQ (gF rest i f x) ((zO f x).take k) st).1=kids at*;generalize (zQ (gF rest i f x) ((zO f x).take k) st).2=st' at*;generalize (zO f x)[k]=v at*;go_wp2;refine zL 16 (λW=>zA (λb=>c.kept F' b/\(Value.slice AK kids.length C).ownBlock ≠some b) wr W) (by kernel_rfl) ?_;have hS:(λW=>zA (λb=>c.kept F' b/\(Value.slice AK kids.length C).ownBlock ≠some b) wr W) wr.drew:=(zA.refl _ _).drew
   (refine tkQ 0 hS ?_;simp only[nr])
   (refine tkS 1 ?_ hS ?_ ?_;rotate_left;intro w Q;obtain⟨h0,h1,h2,h3,h4,h5,h6,h7⟩:=E.out _ Q;go_simp;(try with_reducible rfl);simp only[nr])
   (refine tkS 2 ?_ hS ?_ ?_;rotate_left;intro w Q;obtain⟨h0,h1,h2,h3,h4,h5,h6,h7⟩:=E.out _ Q;go_simp;(try with_reducible rfl);simp only[nr])
   (refine tkQ 3 hS ?_;simp only[nr])
   (refine tkS 4 ?_ hS ?_ ?_;rotate_left;intro w Q;obtain⟨h0,h1,h2,h3,h4,h5,h6,h7⟩:=E.out _ Q;go_simp;(try with_reducible rfl);simp only[nr])
   (refine tkQ 5 hS ?_;simp only[nr])
   (refine tkQ 6 hS ?_;simp only[nr])
   (refine tkQ 7 hS ?_;simp only[nr])
   (refine tkS 8 ?_ hS ?_ ?_;rotate_left;intro w Q;obtain⟨h0,h1,h2,h3,h4,h5,h6,h7⟩:=E.out _ Q;go_simp;(try with_reducible rfl);simp only[nr])
   (refine tkQ 9 hS ?_;simp only[nr])
   (refine tkQ 11 hS ?_;simp only[nr])
   (refine tkQ 12 hS ?_;simp only[nr])
   refine wS1 10 (λK U=> ?_);(go_wp2_with fail);have a2:=HL.out.kept;refine(zNa x.name v ds (zG f) f (Nat.le_refl _) (by have:=j.out.size;omega) (λb=>Zf b/\b<w.heap.size) _ wr.drew (FmR.keep ((a2.mono λb _ g=>(j.out.offF b g.1).1).drew) _ _ cw.out) j.out.ok).mono ?_;rintro e w7 ⟨c9,rfl,cb,b9⟩;have ad:Bw wr w7:=((Below.refl wr.heap.size wr).drew).trans b9;have b5:zA (λb=>c.kept F' b/\(Value.slice AK kids.length C).ownBlock ≠some b) wr w7:= .of_below ad;(have dj:rest.length=ds.length-(i+1):=by rw[R];simp);have bc:=hid (IH (i+1) _ c9 w7 st' F' Z' _ R (by omega) (j.out.kid (nm:=x.name) (v:=v) ab.out.2.1 HL.out ad cb bv.out.1 (by have h1:=bv.out.2.2;have h2:=j.out.len;omega)));have bb:=hid ad;refine U _ _ (Or.inr b5) ?_;clear U K b9 a2 cb
   (try simp only[nr])
   refine wS1 13 (λK U=> ?_);(go_wp2_with fail);refine bc.out.mono ?_;intro e w8 L;have bh:zA (λb=>c.kept F' b/\(Value.slice AK kids.length C).ownBlock ≠some b) wr w8:=b5.trans (L.2.2.mono λb _ g=>g.1);have bo:w8.ownsRow w6.heap.size 3 1 (.slice AK kids.length C) kids.length (kids.map (.int .i64)):=zX (zX HL.out.own (zA.of_below (Z:=λ_=>True) bb.out) (λ_ _=>trivial)) L.2.2 (λk hk=>(HL.out.row k hk).1);have dr:w6.heap.size<=w8.heap.size:=Nat.le_trans dg (Nat.le_trans bb.out.size L.2.2.size);have bt:=hid L;obtain rfl:=L.1;refine U _ _ (Or.inr bh) ?_;clear U K L
   (try simp only[nr])
   have bs:=hid (show gF rest i f x v st'=zu rest (i+1) (zU x.name v f) st' from rfl);rw[<-bs.out]at bt⊢;generalize gF rest i f x v st'=r at*;refine wS1 14 (λK U=> ?_);(go_wp2_with fail);refine U _ _ (Or.inr (bh.alloc _)) ?_;clear U K
   (try simp only[nr])
   refine wS1 15 (λK U=> ?_);refine zAz (.tmp 81) (.tmp 95) _ rfl underlying28 Tryz.eInt rfl (bo.alloc _) rfl (news:=[.int .i64 r.1]) rfl (one_cell (by simp)) (by simp[Value.oneCell']) (by have:=ax.out;unfold maxLen;omega) (by have:=ax.out;omega) (by simp;omega) ?_;intro v5 d5 a6 ag ac;have bd:=hid (HL.out.step bb.out bt.out ag a6 ac);refine U _ _ (Or.inr ((bh.alloc _).grown ag (λk hk _ hz=>hz.2 hk))) ?_;clear U K ag a6 ac
   (try simp only[nr])
   refine wS1 16 (λK U=> ?_);(go_wp2_with fail);refine U _ _ (Or.inl rfl) ?_;clear U K
   (try simp only[nr])
   refine wSd ?_ _;go_wp2;go_roundw
   case rel=>
    obtain⟨F2,Z2,dd⟩:=bd.out;refine⟨k+1,_,F2,Z2,by omega,by go_num,rfl,?_⟩;rw[cy.out];exact dd
   case measure=>simp[intOf];omega
  ·(obtain rfl:k=(zO f x).length :=by omega);rw[List.take_length]at m;have cj:=zC7 (f:=gF rest i f x) (zO f x) st;have hW:=zMD (f:=gF rest i f x) (B:=4000+rest.length) (λv st=>zHD rest _ _ st) (λv st hs=>zME rest _ _ st hs) (zO f x) st j.out.wst;have cm:(zQ (gF rest i f x) (zO f x) st).1≠[]:=zIi (by simp[zO]);have br:=hid (show zMS rest i f st ds[i]=((zAT (zQ (gF rest i f x) (zO f x) st).2.all i (zO f x) (zQ (gF rest i f x) (zO f x) st).1).1,⟨(zAT (zQ (gF rest i f x) (zO f x) st).2.all i (zO f x) (zQ (gF rest i f x) (zO f x) st).1).2,zCh (zQ (gF rest i f x) (zO f x) st).2.done (zCe i f) (zAT (zQ (gF rest i f x) (zO f x) st).2.all i (zO f x) (zQ (gF rest i f x) (zO f x) st).1).1,(zQ (gF rest i f x) (zO f x) st).2.full⟩) from by rw[c6.out];rfl);generalize (zQ (gF rest i f x) (zO f x) st).1=kids at*;generalize (zQ (gF rest i f x) (zO f x) st).2=st' at*;have dj:rest.length=ds.length-(i+1):=by rw[R];simp
   have b6:st'.all.length<=5000:=by
    have h1:=hW.1.tab.len;have h2:=hW.2.2;have h3:=j.out.len;omega
   have ak:∀q∈kids,I64 q:=λq hq=>by
    have:=hW.2.1 q hq;have h1:=this.1;have h2:=this.2;constructor<;>omega
   have av:zA (c.kept F) w wr:=ab.out.2.1.trans m.kept;have dz:=m.kept.size
   have T:=hid (zNK c.M st'.all F' Z' (λb=>(w.heap.size<=b/\b<w6.heap.size)\/vk.ownBlock=some b) (i:Int) (.slice A6 (zO f x).length bx) vk (zO f x) kids wr m.mem.mkr
    ((bu.out.keep (m.kept.mono λb _ g=>z.out b (Nat.le_trans ap g.1))).mono λb g=>Or.inl ⟨Nat.le_trans ap g.1,g.2⟩) ((zI3 m.own ak (by omega)).mono λb g=>Or.inr g)
    (λb g=>by
     rcases g with g|g
     ·exact(zD3 m.hF (z.out b g.1) g.2 (Nat.le_refl _)).1
     ·exact(m.row b g).1.1)
    (by constructor<;>omega) cj.symm cm (by omega) (by omega) ((j.out.tab.on (j.out.belowB av)).mono (by have:=j.out.base.1;have:=av.size;omega)))
   obtain⟨AK,C,rfl,-,-,-⟩:=Row.of_own m.own (by decide);have m0:=m.mem.mv.cell;have bp:=m.mem.mv.lt;have HL:=hid m;have Y:=hid av;clear m cj hW cm ak av b6;generalize zAT st'.all i (zO f x) kids=o at*;(go_wp2_with fail);refine T.out.mono ?_;intro e w8 L;obtain⟨rfl,⟨F2,Z2,ck,bg,bj⟩,bn⟩:=L;have ah:=GrW.made HL.out.mem (Below.refl _ _) ck bg bj bn;have n0:=ah.nv.cell;have bq:=ah.nv.lt;have cx:=hid ah;have cv:=hid ah.done;have N:=hid (And.intro bn (And.intro bg bj));clear ah ck bg bj bn T m0 bp;go_wp2_with(at_mapUpdate;refine zCB rfl (.tmp 103) (.tmp 104) _ rfl (zBb (P:=prog) (k:=9) underlying9) (e:=3) underlying154 rfl (cv.out) ⟨(zCe i f).toArray⟩ rfl ?_;intro w9 cl aa cn ca ce);have a5:zW encS w9 c.db (kvG (zCh st'.done (zCe i f) o.1)):=by rw[<-zQ7];exact cl
   have HE:=hid (show zF3 c (.slice (some ⟨H,a,none⟩) ds.length dcap) w F Z (zMS rest i f st ds[i]) (.returned (.int .i64 o.1)) w9 from by
    rw[br.out];have d1:=N.out.1.size;have h6:=ab.out.2.1.size;refine⟨rfl,⟨F2,Z2,cx.out.setDone a5 aa,λb g=> ?_,λb g=> ?_⟩,⟨aa.os.trans (N.out.1.os.trans Y.out.os),aa.tape.trans (N.out.1.tape.trans Y.out.tape),aa.output.trans (N.out.1.output.trans Y.out.output),by have:=Y.out.size;omega,λk hk hz=> ?_⟩⟩
    ·rcases N.out.2.1 b g with g|g
     ·rcases HL.out.hF b g with g|g
      ·exact Or.inl g
      ·exact Or.inr (by omega)
     ·exact Or.inr (by omega)
    ·rcases N.out.2.2 b g with g|g
     ·rcases HL.out.hZ b g with g|g
      ·exact Or.inl g
      ·exact Or.inr (by omega)
     ·exact Or.inr (by omega)
    ·have d2:=Y.out.size
     rw[aa.block k (by omega) hz.2.1,N.out.1.block k (by omega) (zD3 HL.out.hF hz hk (by omega)).1,Y.out.block k hk hz])
   clear cl a5 aa cn ca ce n0 bq;go_wp2;go_ret;exact HE.out
theorem zUV:∀rest:List zC,zTN c ds Zd D dcap B0 rest:=by
 intro rest
 induction rest with
 |nil=>
  intro i f cs w st F Z Zf g n h
  have o:i=ds.length:=by
   have:=congrArg List.length g;simp at this;omega
  by_cases a:f.op=1\/f.op=2
  ·(have e:zu [] i f st=zBd (decide (f.op=1)) st.full st:=by unfold zu;rw[if_pos a]);rw[e];exact zNj i h a
  ·(have e:zu [] i f st=zBd false (st.full||decide (4000<st.all.length)) st:=by unfold zu;rw[if_neg a]);rw[e];exact zNk i h a n (Or.inr o)
 |cons x rest ih=>
  intro i f cs w st F Z Zf g n h
  have b:i<ds.length:=by
   have:=congrArg List.length g;simp at this;omega
  have m:ds.drop i=ds[i]::ds.drop (i+1):=List.drop_eq_getElem_cons b;rw[m]at g;injection g with hx hrest;by_cases a:f.op=1\/f.op=2
  ·(have e:zu (x::rest) i f st=zBd (decide (f.op=1)) st.full st:=by unfold zu;rw[if_pos a]);rw[e];exact zNj i h a
  ·by_cases d:(st.full||decide (4000<st.all.length))=true
   ·(have e:zu (x::rest) i f st=zBd false (st.full||decide (4000<st.all.length)) st:=by unfold zu;rw[if_neg a,if_pos d,d]);rw[e];exact zNk i h a n (Or.inl d)
   ·cases j:kvI st.done (zCe i f)with
    |some k=>
     (have e:zu (x::rest) i f st=(k,st):=by unfold zu;rw[if_neg a,if_neg d];simp only[j]);rw[e];exact zRu i h a b (by simpa using d) j
    |none=>
     (have e:zu (x::rest) i f st=zMS rest i f st ds[i]:=by rw[<-hx];unfold zu;rw[if_neg a,if_neg d];simp only[j];rfl);rw[e];exact zUU rest ih i hrest h a b (by simpa using d) j
end
end
end Go.Proofs.YthpocbeoanipbaaGreatDoor
