/- Lemmas. -/
import Derived.Test.YtommaegelgilnaaGreatDoorM16
import Derived.RangeFuncNested
import Derived.RangeFuncBound
import Derived.Shelf.RegionOpen
import Derived.LoopNIn
import Derived.LoopIn
set_option linter.all false
namespace Go.Proofs.YtommaegelgilnaaGreatDoor
open Go.RowKit Go.Proofs.Tryz
set_option maxHeartbeats 8000000
set_option maxRecDepth 100000
variable {W w:World}{X8 k n:Nat}{loc r1 r2:Int}{row:Option Nat}{vz:Value}{z:zp}
section
open Go.Shelf
def zCq(n k:Nat):List (Fin n):=(List.finRange n).take k
theorem zE5(h:k<=n):(zCq n k).length =k:=by simp[zCq];omega
theorem zIj(h:k<n):zCq n (k+1)=zCq n k++[⟨k,h⟩]:=by
 unfold zCq;rw[List.take_succ_eq_append_getElem (by simpa using h)];congr 2;simp
theorem zN2(x:Fin n):x∈zCq n k↔x.1<k:=by
 unfold zCq;constructor
 ·intro h;obtain⟨q,a,e⟩:=List.getElem_of_mem h;rw[List.getElem_take,List.getElem_finRange]at e;rw[List.length_take]at a;have:=congrArg Fin.val e;simp at this;omega
 intro h;rw[List.mem_iff_getElem];have b:=x.2;refine⟨x.1,by simp;omega,?_⟩;rw[List.getElem_take,List.getElem_finRange];rfl
def encZ(z:zp)(x:Fin z.length):Array Value:=#[.agg #[.int .i64 (z6 z x.1).1,.int .i64 (z6 z x.1).2,.int .i64 (zC7 z x.1)]]
theorem zN3{β:Type}{B:Nat}{J:β->World->Prop}(h:AbidesFrom B J){s:β}(o:Obj)(a:J s W):J s (W.alloc o):=
 h s W _ none a (World.grownBy_alloc W o none) (λr e=>by cases e)
theorem zMI{Z:zD}(f:∀b,Z b->b<w.heap.size)(W:World)(l:Nat)(o o':Obj)(e:w.heap.size<=l)(h:W.heap[l]? =some o)(a:o.isCells=false)(c:o.isWalk=false):zA Z W (W.putObj l o'):=
 zA.of_below_lt (belowK_b (w:=w) (Nat.le_refl _) W l o o' e h a c) (λb _ d=>f b d)
attribute [local go_sem] Oper.semAt_some
theorem zRV(F:Fence)(n:Nat)(h:F.fn 248)(N:F.round=none)(hn:1<=n)(Z:zD)(l Bs:Nat)(A:Option Addr)(cap:Nat)(z:zp)(T:∀i,i<z.length->zDC z i=true)(D:z.length<=1000000)(L:Z Bs)(J Jx:List (Fin z.length)->World->Prop)
  (hJ:∀a W o,J a W->J a (W.alloc o))
  (hY:∀a x W,J a W->a.length<z.length->YieldAt F (n-1) prog l (encZ z x) W λe t=>
   (e= .returned (.bool true)/\J (a++[x]) t/\zA Z W t)\/(e= .returned (.bool false)/\Jx (a++[x]) t))
  (W:World)(I:W.cell? ⟨Bs,0,none⟩=some (.slice A z.length cap))(Q:zB4 Z W (.slice A z.length cap) z)(h0:J [] W):
  CallsIn F n prog 248 #[.func (.yield l) #[] #[],.pointer (some ⟨Bs,0,none⟩)] W λe t=>(∃v,e= .returned v)/\
   ((∃ys,ys=zCq z.length z.length/\J ys t)\/(∃a,(∃k,k<=z.length/\a=zCq z.length k)/\Jx a t)):=by
 refine callsIn_of_wp func248 rfl h ?_ N;simp only[ntmps248,List.size_toArray,List.length_cons,List.length_nil,Nat.reduceAdd,Nat.reduceSub,Array.replicate_succ,Array.replicate_zero,List.push_toArray,List.append_toArray,List.nil_append,List.cons_append];have u:=hid (λi(hi:i<z.length)=>Q.at_ hi);have X:=hid T;clear Q T
 gi_wp2
 gi_loopw [3,4,5,9] (λv3 v4 v5 i wr=>∃k:Nat,k<=z.length/\i= .int .i64 (k:Int)/\J (zCq z.length k) wr/\zA Z W wr)
  (λ_ _ _ i _=>z.length-(intOf i).toNat)
 case atStart=>exact⟨0,Nat.zero_le _,rfl,h0,zA.refl _ _⟩
 case round=>
  obtain⟨k,hk,rfl,w,f⟩:=hrel;by_cases g:k<z.length
  ·obtain⟨b,s,rfl,q,ab,E,G,-,-⟩:=u k g;have cB:=f.cell (p:=⟨Bs,0,none⟩) L I;have c0:=f.cell (p:=⟨b,s+k*2,none⟩) q E;have c1:=f.cell (p:=⟨b,s+k*2+1,none⟩) q G;have ac:=lt_of_cell cB;have ad:=lt_of_cell c0;have K:=hJ _ _ (.cells #[.int .i64 (z6 z k).1,.int .i64 (z6 z k).2] 104) w;have y:=f.alloc (.cells #[.int .i64 (z6 z k).1,.int .i64 (z6 z k).2] 104);obtain⟨fn,V,assign,body,O,R⟩:=hY _ ⟨k,g⟩ _ K (by rw[zE5 hk];exact g);dsimp only[encZ]at O;have C:=hid (zIj g);(have ae:IntKind.i64.wrap ((k:Int)+1)=(k:Int)+1:=by rw[IntKind.wrap_i64];omega);by_cases c:k+1<z.length
   ·obtain⟨b',U,H,-,-,P,-,-,-⟩:=u (k+1) c;injection H with H;injection H with eb eo;subst eb eo;have c2:=f.cell (p:=⟨b,s+(k+1)*2,none⟩) q P;have M:=zF7 (X (k+1) c);have aa:=zC7 z k;rw[show zC7 z k=(z6 z (k+1)).1-1 from by unfold zC7;rw[if_pos c]]at O;(have B:((k:Int)+1)<(z.length:Int):=by omega);(have af:IntKind.i64.wrap ((z6 z (k+1)).1-1)=(z6 z (k+1)).1-1:=by rw[IntKind.wrap_i64];omega);clear E G P M;generalize (z6 z k).1=s0 at*;generalize (z6 z k).2=s1 at*;generalize (z6 z (k+1)).1=s2 at*
    gi_wp2
    refine R.mono ?_;rintro e Y (⟨rfl,j,m⟩|⟨rfl,d⟩)
    ·gi_wp2
     go_roundw;(case rel=>exact⟨k+1,by omega,by simp,by rw[C.out];exact j,y.trans m⟩);case measure=>simp[intOf];omega
    gi_wp2
    refine bodyPost_ret (results_none rfl _ _ _) rfl ?_;exact⟨⟨_,rfl⟩,.inr ⟨_,⟨k+1,by omega,C.symm⟩,d⟩⟩
   rw[show zC7 z k=144001439 from by unfold zC7;rw[if_neg c]]at O;(have B:¬((k:Int)+1)<(z.length:Int):=by omega);clear E G;generalize (z6 z k).1=s0 at*;generalize (z6 z k).2=s1 at*
   gi_wp2
   refine R.mono ?_;rintro e Y (⟨rfl,j,m⟩|⟨rfl,d⟩)
   ·gi_wp2
    go_roundw;(case rel=>exact⟨k+1,by omega,by simp,by rw[C.out];exact j,y.trans m⟩);case measure=>simp[intOf];omega
   gi_wp2
   refine bodyPost_ret (results_none rfl _ _ _) rfl ?_;exact⟨⟨_,rfl⟩,.inr ⟨_,⟨k+1,by omega,C.symm⟩,d⟩⟩
  obtain rfl:k=z.length:=by omega
  gi_wp2
  go_end0;exact⟨⟨_,rfl⟩,.inl ⟨_,rfl,w⟩⟩
theorem zS8(F:Fence)(n:Nat)(h:F.fn 216)(b:F.round=none)(A:Option Addr)(a cap:Nat)(w:World):
  CallsIn F n prog 216 #[.agg #[.slice A a cap]] w λe w'=>e= .returned (.func (.func 248) #[] #[.pointer (some ⟨w.heap.size,0,none⟩)])/\w'=w.alloc (.cells #[.slice A a cap] 100):=by
 refine callsIn_of_wp func216 rfl h ?_ b;simp only[ntmps216,List.size_toArray,List.length_cons,List.length_nil,Nat.reduceAdd,Nat.reduceSub,Array.replicate_succ,Array.replicate_zero,List.push_toArray,List.append_toArray,List.nil_append,List.cons_append]
 gi_wp2
 go_ret;exact⟨rfl,rfl⟩
theorem zO8(F:Fence)(n:Nat)(h:F.fn 248)(g:F.round=none)(x:1<=n)(Z:zD)(Bs:Nat)(A:Option Addr)(cap:Nat)(z:zp)(y:∀i,i<z.length->zDC z i=true)(a:z.length<=1000000)(w:World)(d:Bs<w.heap.size)(e:Z Bs)
  (u:w.cell? ⟨Bs,0,none⟩=some (.slice A z.length cap))(s:zB4 (λb=>Z b/\b<w.heap.size) w (.slice A z.length cap) z):
  SeqStopsK F n prog 248 #[.pointer (some ⟨Bs,0,none⟩)] (encZ z) (zA Z) (λys=>ys=zCq z.length z.length)
   (λc=>∃k,k<=z.length/\c=zCq z.length k) z.length w:=λl J Jx W j q _ t m=>
 zRV F n h g x Z l Bs A cap z y a e J Jx (λc W o v=>zN3 q o v) t W (brd j u d) ((s.keep (.of_below_lt j λb _ f=>f.2)).mono λb f=>f.1) m
end
section
open Go.Shelf
theorem zPm(d:k<z.length)(a:∀j,j<k->¬zCT z loc j<=zC7 z j)(h:zCT z loc k<=zC7 z k):zDQ z loc z.length 0=(zCT z loc k,0):=by
 have:∀n i,i<=k->i+n=z.length->zDQ z loc n i=(zCT z loc k,0):=by
  intro n
  induction n with
  |zero=>intro i b c;omega
  |succ n ih=>
  intro i b c;unfold zDQ;by_cases e:i=k
  ·subst e;rw[if_pos h]
  rw[if_neg (a i (by omega))];exact ih (i+1) (by omega) (by omega)
 exact this z.length 0 (Nat.zero_le _) (by omega)
theorem zO9(a:∀j,j<z.length->¬zCT z loc j<=zC7 z j):zDQ z loc z.length 0=(0,10):=by
 have:∀n i,i+n=z.length->zDQ z loc n i=(0,10):=by
  intro n
  induction n with
  |zero=>intro i _;rfl
  |succ n ih=>
  intro i b;unfold zDQ;rw[if_neg (a i (by omega))];exact ih (i+1) (by omega)
 exact this z.length 0 (by omega)
theorem zMJ{a:List (Fin n)}{x:Fin n}(e:k<=n)(h:a++[x]=zCq n k):k=x.1+1/\a=zCq n x.1:=by
 have f:a.length+1=k:=by have:=congrArg List.length h;rw[zE5 e]at this;simpa using this
 subst f;rw[zIj (by omega)]at h;obtain⟨c,d⟩:=List.append_inj' h rfl;have b:=congrArg Fin.val (List.singleton_inj.1 d);dsimp only at b;exact⟨by rw[b],by rw[b];exact c⟩
attribute [local go_sem] Oper.semAt_some
theorem zBR{W b:World}{g:Nat}{t:TypeId}{cs:Array Value}(h:Blk W g t cs)(d:W.grownBy b row)(f:∀r,row=some r->∃o:Obj,W.heap[r]? =some o/\o.isCells=false):Blk b g t cs:=by
 refine(d.block g h.lt λe=> ?_).trans h;obtain⟨o,a,c⟩:=f g e.symm;unfold Blk at h;rw[h]at a;injection a with a;subst a;cases c
structure InB (w W:World) (X8:Nat) (vz:Value) (r1 r2 loc:Int):Prop where
 z:W.cell? ⟨w.heap.size,0,none⟩=some vz
 b1:Blk W (w.heap.size+1) 3 #[.int .i64 r1]
 b2:Blk W (w.heap.size+1+1) 39 #[.int .i64 r2]
 l:W.cell? ⟨X8,0,none⟩=some (.int .i64 loc)
 be:Bw w W
 sz:X8+2<=W.heap.size
theorem InB.kept{w W c:World}(h:InB w W X8 vz r1 r2 loc)(b:W.grownBy c row)(d:∀r,row=some r->w.heap.size<=r/\∃o:Obj,W.heap[r]? =some o/\o.isCells=false):InB w c X8 vz r1 r2 loc:=
 have a:∀r,row=some r->∃o:Obj,W.heap[r]? =some o/\o.isCells=false:=λr e=>(d r e).2
 ⟨cell_kept h.z b a,zBR h.b1 b a,zBR h.b2 b a,cell_kept h.l b a,h.be.grown b h.be.size (λk e=>(d k e).1),Nat.le_trans h.sz b.size⟩
theorem InB.alloc(h:InB w W X8 vz r1 r2 loc)(o:Obj):InB w (W.alloc o) X8 vz r1 r2 loc:=h.kept (World.grownBy_alloc W o none) (λr e=>by cases e)
theorem InB.put(h:InB w W X8 vz r1 r2 loc)(i:w.heap.size+3<=X8)(a b:Int):InB w ((W.setCell ⟨w.heap.size+1,0,none⟩ (.int .i64 a)).setCell ⟨w.heap.size+1+1,0,none⟩ (.int .i64 b)) X8 vz a b loc:=by
 have c:∀(g:Nat)(v u1 u2:Value),g≠w.heap.size+1->g≠w.heap.size+1+1->W.cell? ⟨g,0,none⟩=some v->((W.setCell ⟨w.heap.size+1,0,none⟩ u1).setCell ⟨w.heap.size+1+1,0,none⟩ u2).cell? ⟨g,0,none⟩=some v:=λg v u1 u2 e f d=>by
  rw[World.cell?_of_block (w:=W) ((Below.heap_setCell _ _ _ _ f).trans (Below.heap_setCell _ _ _ _ e))];exact d
 exact⟨c _ _ _ _ (by omega) (by omega) h.z,(h.b1.set_ 0 _).far (by simp) _,(h.b2.far (by simp) _).set_ 0 _,c _ _ _ _ (by omega) (by omega) h.l,(h.be.setCell (by simp) _).setCell (by simp;omega) _,by simpa[World.setCell]using h.sz⟩
theorem zN4(Z:zD)(v:Value)(z:zp)(i a:Int)(w:World)(h:zB4 Z w v z)(hz:∀b,Z b->b<w.heap.size):
  Calls prog 160 #[.agg #[v],.int .i64 i,.int .i64 a] w λe w'=>e= .returned (.tuple #[.int .i64 (zCn z i a).1,.int .i64 (zCn z i a).2])/\Bw w w':=by
 obtain⟨A,f,rfl,hl⟩:=h.form;have J:=hid (λW(hW:Bw w W)=>zGG Z (.slice A z.length f) z W (h.keep (.of_below_lt hW λb _ t=>hz b t)));have af:=hid (λW(hW:Bw w W)=>(h.keep (.of_below_lt hW λb _ t=>hz b t)));have HZ:=hid hz;clear h hz;have B:=hid (((zG w (.cells #[.slice A z.length f] 100)).alloc (by simp) (.cells #[.int .i64 0] 3)).alloc (by simp;omega) (.cells #[.int .i64 0] 39));have O:=hid (((Blk.new w 100 #[.slice A z.length f]).alloc (.cells #[.int .i64 0] 3)).alloc (.cells #[.int .i64 0] 39));have m:=(Blk.new (w.alloc (.cells #[.slice A z.length f] 100)) 3 #[.int .i64 0]).alloc (.cells #[.int .i64 0] 39);rw[World.size_alloc]at m;have E:=hid m;have o:=Blk.new ((w.alloc (.cells #[.slice A z.length f] 100)).alloc (.cells #[.int .i64 0] 3)) 39 #[.int .i64 0];rw[World.size_alloc,World.size_alloc]at o;have F:=hid o;clear m o;have al:=hid (λh=>(show zCn z i a=(0,1) from by unfold zCn;rw[if_pos h]));by_cases g:zBn z=false\/a<0\/1440<=a
 ·rw[al g];go_enter func160,ntmps160
  go_wp2_with fail
  refine(J _ B).mono ?_;rintro e N ⟨rfl,t⟩;have C:=hid (zC B t);have m:=E.below t E.lt;have o:=F.below t F.lt;have BP:=hid m;have BQ:=hid o;obtain⟨p0,a0,pl⟩:=m.d1;obtain⟨q0,ak,ql⟩:=o.d1;clear t m o O E F J af B;generalize zBn z=vz at*;cases vz
  ·(go_wp2_with fail);exact bodyPost_ret (zD1 rfl rfl rfl (zBg (Tryz.aInt _) (((BP.set_ 0 _).far (by simp) _).at0)) (zBg (Tryz.aErr _) ((BQ.far (by simp) _).set_ 0 _).at0)) rfl ⟨rfl,(C.setCell (by simp) _).setCell (by simp;omega) _⟩
  rcases g with g|g|g
  ·cases g
  ·(go_wp2_with fail);exact bodyPost_ret (zD1 rfl rfl rfl (zBg (Tryz.aInt _) (((BP.set_ 0 _).far (by simp) _).at0)) (zBg (Tryz.aErr _) ((BQ.far (by simp) _).set_ 0 _).at0)) rfl ⟨rfl,(C.setCell (by simp) _).setCell (by simp;omega) _⟩
  have h0:¬a<0:=by omega
  go_wp2_with fail
  exact bodyPost_ret (zD1 rfl rfl rfl (zBg (Tryz.aInt _) (((BP.set_ 0 _).far (by simp) _).at0)) (zBg (Tryz.aErr _) ((BQ.far (by simp) _).set_ 0 _).at0)) rfl ⟨rfl,(C.setCell (by simp) _).setCell (by simp;omega) _⟩
 simp only[not_or,Bool.not_eq_false,Int.not_lt,Int.not_le]at g;obtain⟨R,bz,b0⟩:=g;have bs:¬a<0:=by omega
 have bt:¬1440<=a:=by omega
 by_cases Y:100001<i
 ·rw[show zCn z i a=(0,10) from by unfold zCn;rw[R,if_neg (by simp;omega),if_pos Y]];go_enter func160,ntmps160
  go_wp2_with fail
  refine(J _ B).mono ?_;rintro e N ⟨rfl,t⟩;have C:=hid (zC B t);have m:=E.below t E.lt;have o:=F.below t F.lt;have BP:=hid m;have BQ:=hid o;obtain⟨p0,a0,pl⟩:=m.d1;obtain⟨q0,ak,ql⟩:=o.d1;clear t m o O E F J af B;rw[R];go_wp2_with fail
  exact bodyPost_ret (zD1 rfl rfl rfl (zBg (Tryz.aInt _) (((BP.set_ 0 _).far (by simp) _).at0)) (zBg (Tryz.aErr _) ((BQ.far (by simp) _).set_ 0 _).at0)) rfl ⟨rfl,(C.setCell (by simp) _).setCell (by simp;omega) _⟩
 have ac:=hid (show zCn z i a=zDQ z (max i (-2)*1440+a) z.length 0 from by unfold zCn;rw[R,if_neg (by simp;omega),if_neg Y]);obtain⟨L,au⟩:∃L,max i (-2)=L:=⟨_,rfl⟩;have av: -2<=L:=by omega
 have aw:L<=100001:=by omega
 rw[au]at ac;have a3:IntKind.i64.wrap (L*1440)=L*1440:=by rw[IntKind.wrap_i64];omega
 have a4:IntKind.i64.wrap (L*1440+a)=L*1440+a:=by rw[IntKind.wrap_i64];omega
 refine(callsIn_wide (n:=6)).1 ?_;refine callsIn_of_wp_marks func160 rfl trivial ?_ rfl;simp only[ntmps160,List.size_toArray,List.length_cons,List.length_nil,Nat.reduceAdd,Nat.reduceSub,Array.replicate_succ,Array.replicate_zero,List.push_toArray,List.append_toArray,List.nil_append,List.cons_append]
 gi_wp2_with fail
 refine⟨trivial,?_⟩;refine(callsIn_wide.2 (J _ B)).mono ?_;rintro e N ⟨rfl,t⟩;have C:=hid (zC B t);have T:=hid (O.below t O.lt);have ap:=hid (E.below t E.lt);have ag:=hid (F.below t F.lt);have c0:=T.at0;have cl:=T.lt;clear t O E F J B;rw[R];have X:w.heap.size+3<=N.heap.size:=by have:=ag.lt;omega
 rcases Int.lt_or_le i (-2)with hd|hd;all_goals gi_wp2_with (refine⟨trivial,?_⟩;gi_at_call 216;refine(zS8 Fence.wide _ trivial rfl _ _ _ _).mono ?_;rintro e w' ⟨rfl,rfl⟩)
 all_goals first
  |rw[show(-2880:Int)+a=L*1440+a from by omega]
  |rw[show i*1440+a=L*1440+a from by omega]
 all_goals
  have bw: -2880<=L*1440+a:=by omega
  have bv:L*1440+a<=1000000000:=by omega
  generalize L*1440+a=loc at*;obtain⟨X8,ar⟩:∃X8,N.heap.size=X8:=⟨_,rfl⟩;have az:=zHh.1 R;have M:=(Blk.new (N.alloc (.cells #[.int .i64 loc] 3)) 100 #[.slice A z.length f]).at0;have U:Bw w ((N.alloc (.cells #[.int .i64 loc] 3)).alloc (.cells #[.slice A z.length f] 100)):=(C.alloc C.size _).alloc (by simp;omega) _;have P:InB w ((N.alloc (.cells #[.int .i64 loc] 3)).alloc (.cells #[.slice A z.length f] 100)) N.heap.size (.slice A z.length f) 0 0 loc:=⟨((T.alloc _).alloc _).at0,(ap.alloc _).alloc _,(ag.alloc _).alloc _,((Blk.new N 3 #[.int .i64 loc]).alloc _).at0,U,by simp⟩;have V:=af _ U;have a2:((N.alloc (.cells #[.int .i64 loc] 3)).alloc (.cells #[.slice A z.length f] 100)).heap.size =N.heap.size+2:=by simp
  rw[World.size_alloc]at M;rw[ar]at M P a2 X⊢;generalize (N.alloc _).alloc _=W0 at*;clear C T ap ag c0 cl ar a3 a4 au av aw
  refine wpIn_rangeFunc_ownH rfl (by omega) (gf:=248) (lb:=#[.pointer (some ⟨X8+1,0,none⟩)]) rfl trivial (enters_of func248 (by kernel_rfl) rfl)
   (zO8 Fence.wide _ trivial rfl (by omega) (λb=>b<X8+2) (X8+1) A f z az.1 (by omega) W0 (by omega) (by omega) M (V.mono λb t=>by have:=HZ b t;exact⟨by omega,by omega⟩))
   (λh k=>zA.trans h k) (zMI (by intro b t;omega)) (Below.refl _ _) (λ_=>rfl)
   (λG W=>InB w W X8 (.slice A z.length f) 0 0 loc/\∀x∈G,¬zCT z loc x.1<=zC7 z x.1)
   (λc G W=>c= .ret /\∃p x,G=p++[x]/\zCT z loc x.1<=zC7 z x.1/\(∀y∈p,¬zCT z loc y.1<=zC7 z y.1)/\InB w W X8 (.slice A z.length f) (zCT z loc x.1) 0 loc)
   (λs W W' row hs hg hr=>⟨hs.1.kept hg (λr e=>⟨by have:=(hr r e).1;omega,(hr r e).2⟩),hs.2⟩)
   (λc s W W' row hs hg hr=>by
    obtain⟨h1,p,x,h2,h3,h4,h5⟩:=hs
    exact⟨h1,p,x,h2,h3,h4,h5.kept hg (λr e=>⟨by have:=(hr r e).1;omega,(hr r e).2⟩)⟩)
   ⟨P,λx hx=>by simp at hx⟩
   (λx a' W=>∃Bx,∃a5 a6 a7 a8 a9 ba bb bc bd bf bg bh bi bj bk bm bn bo bp bq br:Value,X8+2<=Bx/\Blk W Bx 270 #[.int .i64 (z6 z x.1).1,.int .i64 (z6 z x.1).2,.int .i64 (zC7 z x.1)]/\a'={tmps:=#[.agg #[.slice A z.length f],.int .i64 i,.int .i64 a,.pointer (some ⟨w.heap.size,0,none⟩),undef,undef,.pointer (some ⟨w.heap.size+1,0,none⟩),.pointer (some ⟨w.heap.size+1+1,0,none⟩),.pointer (some ⟨X8,0,none⟩),.pointer (some ⟨Bx,0,none⟩),undef,a5,a6,a7,a8,a9,ba,bb,bc,bd,bf,bg,bh,bi,bj,bk,bm,bn,bo,bp,bq,br,.func (.func 248) #[] #[.pointer (some ⟨X8+1,0,none⟩)],.agg #[.int .i64 (z6 z x.1).1,.int .i64 (z6 z x.1).2,.int .i64 (zC7 z x.1)],undef,undef,undef,undef,undef,undef,undef,undef,undef,undef,undef,undef,undef,undef],defers:=[]})
   (λx a' _ W W' row hs hg hr=>by
    obtain⟨Bx,u0,u1,u2,u3,u4,u5,u6,u7,u8,u9,u10,u11,u12,u13,u14,u15,u16,u17,u18,u19,u20,h1,h2,h3⟩:=hs
    exact⟨Bx,_,_,_,_,_,_,_,_,_,_,_,_,_,_,_,_,_,_,_,_,_,h1,zBR h2 hg (λr e=>(hr r e).2),h3⟩) ?_ ?_ ?_ ?_
  ·intro l G x W K hi hK;unfold encZ
   gi_wp2
   refine hK _ _ ((KeepsOthers.alloc _ _).from _) ((zA.refl _ _).alloc _) ⟨hi.1.alloc _,hi.2⟩ ⟨W.heap.size,_,_,_,_,_,_,_,_,_,_,_,_,_,_,_,_,_,_,_,_,_,hi.1.sz,Blk.new W _ _,rfl⟩
  ·rintro l G x a' W hl ⟨r,hr⟩ ⟨d,I⟩ ⟨Bx,u0,u1,u2,u3,u4,u5,u6,u7,u8,u9,u10,u11,u12,u13,u14,u15,u16,u17,u18,u19,u20,bu,bX,rfl⟩ bx;have b3:=zF7 (az.1 x.1 x.2);have H:=hid d;have ae:=hid I;have ao:=hid (show zCT z loc x.1=max (z6 z x.1).1 (loc-(z6 z x.1).2) from rfl);(have b4:IntKind.i64.wrap (loc-(z6 z x.1).2)=loc-(z6 z x.1).2:=by rw[IntKind.wrap_i64];omega);have cL:=d.l;have lL:=lt_of_cell cL;obtain⟨p0,a0,p1,b5,p2,b6,pl⟩:=bX.d3;obtain⟨q0,ak,ql⟩:=(d.b1).d1;obtain⟨e0,a1,el⟩:=(d.b2).d1;clear d I M P V
   have HX:=hid (show ∀y∈G++[x],¬zCT z loc y.1<=zC7 z y.1\/y=x from λy hy=>by
    rcases List.mem_append.1 hy with h|h
    ·exact .inl (ae y h)
    exact .inr (List.mem_singleton.1 h))
   obtain⟨st,aj⟩:∃st,zCT z loc x.1=st:=⟨_,rfl⟩;obtain⟨en,ai⟩:∃en,zC7 z x.1=en:=⟨_,rfl⟩;rw[aj]at ao;have u:=hid (And.intro aj ai);rw[ai]at p2;generalize (z6 z x.1).1=s0 at*;generalize (z6 z x.1).2=s1 at*;clear aj ai;(have ah:(s0<loc-s1/\st=loc-s1)\/(¬s0<loc-s1/\st=s0):=by have:=ao.out;omega);rcases ah with⟨hc,rfl⟩|⟨hc,rfl⟩
   ·skip
    by_cases Q:loc-s1<=en
    ·gi_wp2
     refine⟨((KeepsOthers.setCell _ _ _).trans (KeepsOthers.setCell _ _ _)).from _,rfl,G,x,rfl,by rw[u.1,u.2];exact Q,ae.out,?_⟩;rw[u.1];exact H.put X _ _
    gi_wp2
    exact⟨KeepsFrom.refl _ _,zA.refl _ _,H.out,λy hy=>(HX y hy).elim id (λe=>by subst e;rw[u.1,u.2];exact Q)⟩
   skip
   by_cases Q:st<=en
   ·gi_wp2
    refine⟨((KeepsOthers.setCell _ _ _).trans (KeepsOthers.setCell _ _ _)).from _,rfl,G,x,rfl,by rw[u.1,u.2];exact Q,ae.out,?_⟩;rw[u.1];exact H.put X _ _
   gi_wp2
   exact⟨KeepsFrom.refl _ _,zA.refl _ _,H.out,λy hy=>(HX y hy).elim id (λe=>by subst e;rw[u.1,u.2];exact Q)⟩
  ·rintro D ys W hD rfl ⟨d,I⟩ hK;have H:=hid d;obtain⟨q0,ak,ql⟩:=(d.b1).d1;obtain⟨e0,a1,el⟩:=(d.b2).d1;have ad:=hid (zO9 (z:=z) (loc:=loc) λj hj=>I ⟨j,hj⟩ ((zN2 _).2 hj));clear d I M P V
   gi_wp2
   have ax:=H.put X 0 10;have aq:=((KeepsOthers.setCell W ⟨w.heap.size+1,0,none⟩ (.int .i64 0)).trans (KeepsOthers.setCell _ ⟨w.heap.size+1+1,0,none⟩ (.int .i64 10))).same D _ hK rfl;generalize (W.setCell ⟨w.heap.size+1,0,none⟩ (.int .i64 0)).setCell ⟨w.heap.size+1+1,0,none⟩ (.int .i64 10)=W9 at*;have q:=ax.kept (grownBy_putObj' W9 D (.deferred none)) (λr e=>by cases e;exact⟨by have:=U.size;omega,_,aq,rfl⟩);refine⟨by simp,.inl ⟨_,_,rfl,run_takeDeferred aq,?_⟩⟩;exact⟨.tuple #[.int .i64 0,.int .i64 10],zD1 rfl rfl rfl (zBg (Tryz.aInt _) q.b1.at0) (zBg (Tryz.aErr _) q.b2.at0),by rw[ac.out,ad.out],q.be⟩
  rintro D c G W hD ⟨k,hk,ab⟩ ⟨rfl,p,x,ay,aa,I,d⟩ hK;obtain⟨h1,h2⟩:=zMJ hk (ay.symm.trans ab);have ad:=hid (zPm (z:=z) (loc:=loc) x.2 (λj hj=>I ⟨j,Nat.lt_trans hj x.2⟩ (by rw[h2];exact(zN2 _).2 hj)) aa);have H:=hid d;clear d I M P V ay aa h1 h2 ab
  gi_wp2
  have q:=H.kept (grownBy_putObj' W D (.deferred none)) (λr e=>by cases e;exact⟨by have:=U.size;omega,_,hK,rfl⟩);refine⟨by simp,.inl ⟨_,_,rfl,run_takeDeferred hK,?_⟩⟩;exact⟨.tuple #[.int .i64 _,.int .i64 0],zD1 rfl rfl rfl (zBg (Tryz.aInt _) q.b1.at0) (zBg (Tryz.aErr _) q.b2.at0),by rw[ac.out,ad.out],q.be⟩
theorem zHn(Z:zD)(v:Value)(z:zp)(a:Int)(w:World)(h:zB4 Z w v z)(f:∀b,Z b->b<w.heap.size):
  Calls prog 105 #[.agg #[v],.int .i64 a] w λe w'=>e= .returned (.tuple #[.int .i64 (zA4 z a).1,.int .i64 (zA4 z a).2])/\Bw w w':=by
 have j:=hid (λW(i:Bw w W)=>zN4 Z v z a 0 W (h.keep (.of_below_lt i λb _ d=>f b d)) (λb d=>Nat.lt_of_lt_of_le (f b d) i.size));obtain⟨A,c,rfl,n⟩:=h.form;have g:=hid (zG w (.cells #[.slice A z.length c] 100));have k:=hid (Blk.new w 100 #[.slice A z.length c]);clear h f;unfold zA4;generalize zCn z a 0=r at*;go_enter func105,ntmps105
 go_upto_region 1 with fail
 generalize w.alloc _=s at*;obtain⟨o,m,q⟩:=k.out.d1;go_wp2_with fail
 refine(j _ g).mono ?_;rintro e t ⟨rfl,d⟩;go_wp2_with fail
 go_ret2;exact⟨rfl,zC g d⟩
end
end Go.Proofs.YtommaegelgilnaaGreatDoor
