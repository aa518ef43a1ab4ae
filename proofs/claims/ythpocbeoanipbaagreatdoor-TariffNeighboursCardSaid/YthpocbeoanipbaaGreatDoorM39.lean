/- Texts TU TU2 TU3 TU4 TU5 TU6 TU7. -/
import Derived.Test.YthpocbeoanipbaaGreatDoorM37
import Derived.Test.YthpocbeoanipbaaGreatDoorM38
set_option linter.all false
namespace Go.Proofs.YthpocbeoanipbaaGreatDoor
open Go.RowKit Go.Proofs.Tryz
set_option maxHeartbeats 8000000
set_option maxRecDepth 100000
variable{T1 T2 T3 c c2 lc lc2:Nat}{W w x:World}{Z:zE}{t:zY}{vd vl:Value}
theorem zJB(w:World):Calls prog 24 #[] w λe w'=>e= .returned (.string zEQ)/\w'=w:=by
 go_enter func24,ntmps24
 go_wp2_with fail
 go_ret;exact⟨rfl,rfl⟩
theorem zT8(w:World):Calls prog 23 #[.string zEQ] w λe w'=>∃D c L lc,e= .returned (.tuple #[.agg #[.slice D 2 c,.slice L 3 lc],.int .i64 0,.int .i64 0])/\zAA (λb=>w.heap.size<=b) w' (.slice D 2 c) (.slice L 3 lc) zCd/\Below w.heap.size w w':=by
 refine(zIz zEQ w (by decide+kernel)).mono ?_;rintro e w' ⟨D,c,L,lc,he,a,d⟩;rw[zVt]at he a;exact⟨D,c,L,lc,he,a,d⟩
theorem zSM(w:World):Calls prog 23 #[.string zMK] w λe w'=>∃D c L lc,e= .returned (.tuple #[.agg #[.slice D 2 c,.slice L 4 lc],.int .i64 0,.int .i64 0])/\zAA (λb=>w.heap.size<=b) w' (.slice D 2 c) (.slice L 4 lc) zHj/\Below w.heap.size w w':=by
 refine(zIz zMK w (by decide+kernel)).mono ?_;rintro e w' ⟨D,c,L,lc,he,a,d⟩;rw[zVb]at he a;exact⟨D,c,L,lc,he,a,d⟩
theorem zFq:(∀l∈zCd.lines,zG l.when_<=1000000)/\(∀l∈zHj.lines,zG l.when_<=1000000)/\(∀l∈zIy.lines,zG l.when_<=1000000):=by
 refine⟨λl a=> ?_,λl a=> ?_,λl a=> ?_⟩<;>simp only[zCd,zHj,zIy,List.mem_cons,List.not_mem_nil,or_false]at a
 ·rcases a with rfl|rfl|rfl<;>decide+kernel
 ·rcases a with rfl|rfl|rfl|rfl<;>decide+kernel
 ·rcases a with rfl|rfl<;>decide+kernel
theorem zVQ:∀l∈zCd.lines,LnX l:=by
 have c:zFp (zEh zFA 1 1)/\I64 (zEh zFA 1 1).num :=⟨by unfold zFp;decide+kernel,by unfold I64;decide+kernel⟩;have e:zFp (zEh zEz 6 100)/\I64 (zEh zEz 6 100).num :=⟨by unfold zFp;decide+kernel,by unfold I64;decide+kernel⟩;have d:zFp (zEh zEz 3 50)/\I64 (zEh zEz 3 50).num :=⟨by unfold zFp;decide+kernel,by unfold I64;decide+kernel⟩;intro l b;simp only[zCd,List.mem_cons,List.not_mem_nil,or_false]at b;rcases b with rfl|rfl|rfl
 ·refine⟨.inr ⟨rfl,λk a=> ?_,by decide+kernel,by decide+kernel⟩,by decide+kernel,by decide+kernel,by decide+kernel⟩;simp only[lA1,Fm.kids,List.mem_cons,List.not_mem_nil,or_false]at a;rcases a with rfl|rfl
  ·exact e
  ·exact c
 ·exact⟨.inl c,by decide+kernel,by decide+kernel,by decide+kernel⟩
 ·exact⟨.inl d,by decide+kernel,by decide+kernel,by decide+kernel⟩
theorem zU8(Z:zE)(vd c:Value)(w:World)(h:zAA Z w vd c zCd)(f:∀b,Z b->b<w.heap.size)(a:zAD w.heap.size w):
  Calls prog 25 #[.agg #[vd,c]] w λe w'=>e= .returned (.tuple #[.string zEQ,.int .i64 0])/\Below w.heap.size w w':=by
 have:=zT3 Z vd c zCd w h f (λl d=>Nat.le_trans (zFq.1 l d) (by decide)) zVP zVQ (by decide+kernel) (by decide+kernel) (by decide+kernel) (by decide+kernel) a;rw[zVd]at this;exact this
theorem zVR(Z:zE)(vd c:Value)(w:World)(h:zAA Z w vd c zCd)(d:∀b,Z b->b<w.heap.size)(a:zAD w.heap.size w):
  Calls prog 15 #[.agg #[vd,c]] w (zKY w (some [50,0],0)):=by
 have:=zJA Z vd c zCd w h d zFq.1 a;rw[zVu]at this;exact this
theorem zT9(Z:zE)(vd c:Value)(w:World)(h:zAA Z w vd c zHj)(d:∀b,Z b->b<w.heap.size)(a:zAD w.heap.size w):
  Calls prog 17 #[.agg #[vd,c]] w (zPT w ([3],0)):=by
 have:=zKD Z vd c zHj w h d zFq.2.1 (by decide) a;rw[zVe]at this;exact this
theorem zU9(Z Z':zE)(vd f a c:Value)(w:World)(h:zAA Z w vd f zCd)(g:zAA Z' w a c zIy)(i:∀b,Z b->b<w.heap.size)(e:∀b,Z' b->b<w.heap.size)(d:zAD w.heap.size w):
  Calls prog 18 #[.agg #[vd,f],.agg #[a,c]] w (zKY w (some [100,1],0)):=by
 have:=zDn Z Z' vd f a c zCd zIy w h g i e zFq.1 zFq.2.2 d;rw[zVf]at this;exact this
theorem zKE(Z Zc:zE)(vd f d:Value)(c:List Int)(w:World)(h:zAA Z w vd f zCd)(g:zK Zc w d c)(j:∀b,Z b->b<w.heap.size)(a:∀b,Zc b->b<w.heap.size):
  Calls prog 11 #[.agg #[vd,f],d] w λe w'=>e= .returned (.tuple #[.int .i64 (zAR zCd c).1,.int .i64 (zAR zCd c).2])/\Below w.heap.size w w':=
 zDZ Z Zc vd f d zCd c w h g j a λl i=>Nat.le_trans (zFq.1 l i) (by decide)
theorem zVS{A:Option Addr}(h:zAA Z w vd (.slice A 3 lc) zCd):∃b off,A=some ⟨b,off,none⟩/\3<=lc/\lc<=9223372036854775807/\zAA Z w vd (.slice (some ⟨b,off+7,none⟩) 2 (lc-1)) zIy:=by
 obtain⟨f,⟨⟨i,j,e,a,c,m,d⟩⟩⟩:=h;injection e with e1 e2 e3;subst e1 e3;obtain⟨b,off,k,rfl,q,n,o,g⟩:=d;have a:3<=lc:=a;exact⟨b,off,rfl,a,c,f,⟨⟨_,_,rfl,by show 2<=lc-1;omega,by omega,by show 2*64<=_;decide,g⟩⟩⟩
theorem zUa:∀W,(Op.stringOp .add zEQ ⟨#[99,108,97,115,115,32,97,49,32,119,104,101,110,32,119,101,105,103,104,116,32,62,32,49,49,48,32,97,110,100,32,109,105,108,105,116,97,114,121,32,61,32,49,59]⟩).run prog W= .ok (.string zMK) W:=λW=>by
 have:=run_string_add_sum (P:=prog) W zEQ ⟨#[99,108,97,115,115,32,97,49,32,119,104,101,110,32,119,101,105,103,104,116,32,62,32,49,49,48,32,97,110,100,32,109,105,108,105,116,97,114,121,32,61,32,49,59]⟩ (by decide+kernel);rw[show zEQ++(⟨#[99,108,97,115,115,32,97,49,32,119,104,101,110,32,119,101,105,103,104,116,32,62,32,49,49,48,32,97,110,100,32,109,105,108,105,116,97,114,121,32,61,32,49,59]⟩:ByteArray)=zMK from by decide+kernel]at this;exact this
theorem zVT:(⟨#[102,97,99,116,115,32,123,32,97,32,102,108,97,103,59,32,125,32,99,108,97,115,115,32,120,32,119,104,101,110,32,98,32,61,32,49,59]⟩:ByteArray)=zOU:=by decide+kernel
theorem zA4.live{cs:List Value}{x:zI}(h:zA4 Z w cs x):zA4 (λb=>Z b/\b<w.heap.size) w cs x:=by
 obtain⟨a,c,d,e⟩:=h;exact⟨a,FmR.live _ _ c,d,e⟩
theorem zKF{Z:zE}{w:World}:∀{l:List zI}{A:Option Addr},zm (zA4 Z w) 7 Z w l A->zm (zA4 (λb=>Z b/\b<w.heap.size) w) 7 (λb=>Z b/\b<w.heap.size) w l A
 |[],_,_=>trivial
 |x::l,_,⟨b,off,cs,rfl,hz,hc,hr,hs⟩=>by
  obtain⟨A,a,e,-⟩:=zA4.form hr;have c:b<w.heap.size:=lt_of_cell (hc 0 _ (by rw[e];rfl));exact⟨b,off,cs,rfl,⟨hz,c⟩,hc,hr.live,zKF hs⟩
theorem zAA.live(h:zAA Z w vd vl t):zAA (λb=>Z b/\b<w.heap.size) w vd vl t:=by
 obtain⟨i,⟨⟨A,c,e,a,d,f,g⟩⟩⟩:=h;exact⟨i.live,⟨⟨A,c,e,a,d,f,zKF g⟩⟩⟩
structure HdR (w W:World) (T1 T2:Nat) (D L D2 L2:Option Addr) (c lc c2 lc2:Nat):Prop where
 t1:zAA (λb=>b<W.heap.size) W (.slice D 2 c) (.slice L 3 lc) zCd
 t2:zAA (λb=>b<W.heap.size) W (.slice D2 2 c2) (.slice L2 4 lc2) zHj
 b1:Blk W T1 27 #[.slice D 2 c,.slice L 3 lc]
 b2:Blk W T2 27 #[.slice D2 2 c2,.slice L2 4 lc2]
 be:Below w.heap.size w W
theorem zAA.up(h:zAA (λb=>b<w.heap.size) w vd vl t)(c:Below w.heap.size w x):zAA (λb=>b<x.heap.size) x vd vl t:=(h.keep (.of_below c)).mono λb a=>Nat.lt_of_lt_of_le a c.size
structure zNE (w W:World) (T1 T2 T3:Nat) (D L D2 L2 L3:Option Addr) (c lc c2 lc2:Nat):Prop where
 h:HdR w W T1 T2 D L D2 L2 c lc c2 lc2
 t3:zAA (λb=>b<W.heap.size) W (.slice D 2 c) (.slice L3 2 (lc-1)) zIy
 b3:Blk W T3 27 #[.slice D 2 c,.slice L3 2 (lc-1)]
theorem HdR.below{D L b d:Option Addr}(h:HdR w W T1 T2 D L b d c lc c2 lc2)(a:Below W.heap.size W x):HdR w x T1 T2 D L b d c lc c2 lc2:=
 ⟨h.t1.up a,h.t2.up a,h.b1.below a h.b1.lt,h.b2.below a h.b2.lt,zD h.be a⟩
theorem zNE.below{D L b d e:Option Addr}(h:zNE w W T1 T2 T3 D L b d e c lc c2 lc2)(a:Below W.heap.size W x):zNE w x T1 T2 T3 D L b d e c lc c2 lc2:=⟨h.h.below a,h.t3.up a,h.b3.below a h.b3.lt⟩
theorem zNE.tab{D L a b d:Option Addr}(h:zNE w W T1 T2 T3 D L a b d c lc c2 lc2)(e:zAD w.heap.size w):zAD W.heap.size W:=(e.on h.h.be).mono h.h.be.size
theorem zQO(w:World):Calls prog 23 #[.string zOU] w λe w'=>∃D n c L m lc,e= .returned (.tuple #[.agg #[.slice D n c,.slice L m lc],.int .i64 7,.int .i64 26])/\Below w.heap.size w w':=by
 refine(zIz zOU w (by decide+kernel)).mono ?_;rintro e w' ⟨D,c,L,lc,he,b,a⟩;rw[zVc]at he;exact⟨D,_,c,L,_,lc,he,a⟩
theorem zM4(W:World)(a b:Int)(f:I64 a)(g:I64 b):zK (λk=>k<(W.alloc (.cells #[.int .i64 a,.int .i64 b] 3)).heap.size) (W.alloc (.cells #[.int .i64 a,.int .i64 b] 3)) (.slice (some ⟨W.heap.size,0,none⟩) 2 2) [a,b]:=by
 have c:(W.alloc (.cells #[.int .i64 a,.int .i64 b] 3)).ownsRow W.heap.size 3 1 (.slice (some ⟨W.heap.size,0,none⟩) 2 2) 2 ([a,b].map (.int .i64)):=
  ⟨by simp,.inr ⟨W.heap.size,2,_,rfl,Nat.le_refl _,heap_alloc_new W _,Nat.le_refl _,by simp[maxLen],by simp,by simp⟩⟩
 have h:=zK.of_own c (λx d=>by simp only[List.mem_cons,List.not_mem_nil,or_false]at d;rcases d with rfl|rfl<;>assumption) (by simp);exact h.live.mono λk e=>e.2
theorem zEU(w:World)(Z:zAD w.heap.size w):Calls prog 9 #[] w λe w'=>e= .returned (.bool true)/\Below w.heap.size w w':=by
 have o:=hid Z;clear Z;go_enter func9,ntmps9
 go_wp2_with fail
 refine(zJB w).mono ?_;rintro e w' ⟨rfl,hw⟩;subst w';go_wp2_with fail
 refine(zT8 _).mono ?_;rintro e w1 ⟨D,c,L,lc,rfl,ht,a⟩;have a6:=hid (ht.live.mono (Z':=λb=>b<w1.heap.size) λb h=>h.2);have al:=hid a;clear ht a;go_upto_region 2 with fail
 have a7:=hid (a6.out.up (zF w1 (.cells #[.slice D 2 c,.slice L 3 lc] 27)));have F:=hid (Blk.new w1 27 #[.slice D 2 c,.slice L 3 lc]);have ao:=hid (zD al.out (zF w1 (.cells #[.slice D 2 c,.slice L 3 lc] 27)));clear a6 al;generalize bj:w1.alloc (.cells #[.slice D 2 c,.slice L 3 lc] 27)=w2 at*;generalize bd:w1.heap.size=T1 at*;clear bj bd w1;have a9:=zUa;go_wp2_with fail
 refine(zJB w2).mono ?_;rintro e w' ⟨rfl,hw⟩;subst w';go_wp2_with fail
 refine(zSM _).mono ?_;rintro e w3 ⟨D2,c2,L2,lc2,rfl,ht,a⟩;have T:=hid (ht.live.mono (Z':=λb=>b<w3.heap.size) λb h=>h.2);have a8:=hid (a7.out.up a);have aj:=hid (F.out.below a F.out.lt);have ap:=hid (zD ao.out a);have bo:=a.size;have bn:=F.out.lt;clear ht a a7 F ao a9;go_upto_region 3 with fail
 have A:=zF w3 (.cells #[.slice D2 2 c2,.slice L2 4 lc2] 27);have HH:=hid (show HdR w (w3.alloc (.cells #[.slice D2 2 c2,.slice L2 4 lc2] 27)) T1 w3.heap.size D L D2 L2 c lc c2 lc2 from⟨a8.out.up A,T.out.up A,aj.out.below A aj.out.lt,Blk.new _ _ _,zD ap.out A⟩);clear A a8 aj ap T;have bs:T1<w3.heap.size:=by omega
 generalize bk:w3.alloc (.cells #[.slice D2 2 c2,.slice L2 4 lc2] 27)=w4 at*;generalize bf:w3.heap.size=T2 at*;clear bk bf w3 bo bn w2;obtain⟨k,d,m,f,n⟩:=HH.out.b1.c2;obtain⟨lb,lo,rfl,bt,bu,E⟩:=zVS HH.out.t1;have a5:=hid E;clear E;go_upto_region 7 with fail
 have ak:=zF w4 (.cells #[.slice D 2 c,.slice (some ⟨lb,lo+7,none⟩) 2 (lc-1)] 27);have x:=hid (show zNE w (w4.alloc (.cells #[.slice D 2 c,.slice (some ⟨lb,lo+7,none⟩) 2 (lc-1)] 27)) T1 T2 w4.heap.size D (some ⟨lb,lo,none⟩) D2 L2 (some ⟨lb,lo+7,none⟩) c lc c2 lc2 from⟨HH.out.below ak,a5.out.up ak,Blk.new _ _ _⟩);clear ak HH a5 k m d f n;generalize bl:w4.alloc (.cells #[.slice D 2 c,.slice (some ⟨lb,lo+7,none⟩) 2 (lc-1)] 27)=w5 at*;generalize bg:w4.heap.size=T3 at*;clear bl bg w4;obtain⟨k,d,m,f,n⟩:=x.out.h.b1.c2;go_wp2_with fail
 refine(zU8 _ _ _ w5 x.out.h.t1 (λ_ h=>h) (x.out.tab o.out)).mono ?_;rintro e w6 ⟨rfl,a⟩;have af:=hid (x.out.below a);clear a x k m d f n;have U:=zF w6 (.cells #[.int .i64 120,.int .i64 1] 3);have az:=hid (zM4 w6 120 1 (by unfold I64;omega) (by unfold I64;omega));have aa:=hid (af.out.below U);have s:=hid (zKE _ _ _ _ _ [120,1] _ aa.out.h.t1 az.out (λ_ h=>h) (λ_ h=>h));rw[zWE]at s;clear U;obtain⟨k,d,m,f,n⟩:=af.out.h.b1.c2;go_wp2_with fail
 refine s.out.mono ?_;rintro e w7 ⟨rfl,a⟩;have ag:=hid (aa.out.below a);clear a af aa az s k m d f n;have V:=zF w7 (.cells #[.int .i64 20,.int .i64 0] 3);have a0:=hid (zM4 w7 20 0 (by unfold I64;omega) (by unfold I64;omega));have ab:=hid (ag.out.below V);have t:=hid (zKE _ _ _ _ _ [20,0] _ ab.out.h.t1 a0.out (λ_ h=>h) (λ_ h=>h));rw[zWF]at t;clear V;obtain⟨k,d,m,f,n⟩:=ag.out.h.b1.c2;go_wp2_with fail
 refine t.out.mono ?_;rintro e w8 ⟨rfl,a⟩;have ah:=hid (ab.out.below a);clear a ag ab a0 t k m d f n;have W:=zF w8 (.cells #[.int .i64 60,.int .i64 0] 3);have a1:=hid (zM4 w8 60 0 (by unfold I64;omega) (by unfold I64;omega));have ac:=hid (ah.out.below W);have u:=hid (zKE _ _ _ _ _ [60,0] _ ac.out.h.t1 a1.out (λ_ h=>h) (λ_ h=>h));rw[zWG]at u;clear W;obtain⟨k,d,m,f,n⟩:=ah.out.h.b1.c2;go_wp2_with fail
 refine u.out.mono ?_;rintro e w9 ⟨rfl,a⟩;have y:=hid (ac.out.below a);clear a ah ac a1 u k m d f n;have av:=hid (show Calls prog 15 #[.agg #[.slice D 2 c,.slice (some ⟨lb,lo,none⟩) 3 lc]] w9 (λe w'=>∃v,e= .returned (.tuple #[v,.bool true,.int .i64 0])/\zK (λb=>w9.heap.size<=b) w' v [50,0]/\Below w9.heap.size w9 w') from zVR _ _ _ w9 y.out.h.t1 (λ_ h=>h) (y.out.tab o.out));obtain⟨k,d,m,f,n⟩:=y.out.h.b1.c2;go_wp2_with fail
 refine av.out.mono ?_;rintro e wa ⟨vg,rfl,X,a⟩;have z:=hid (y.out.below a);have a4:=hid (X.live.mono (Z':=λb=>b<wa.heap.size) λb h=>h.2);clear a X y av k m d f n;have ar:=hid (show Calls prog 17 #[.agg #[.slice D2 2 c2,.slice L2 4 lc2]] wa (λe w'=>∃v,e= .returned (.tuple #[v,.int .i64 0])/\zK (λb=>wa.heap.size<=b) w' v [3]/\Below wa.heap.size wa w') from zT9 _ _ _ wa z.out.h.t2 (λ_ h=>h) (z.out.tab o.out));obtain⟨k,d,m,f,n⟩:=z.out.h.b2.c2;go_wp2_with fail
 refine ar.out.mono ?_;rintro e wb ⟨bv,rfl,X,a⟩;have i:=hid (z.out.below a);have O:=hid ((a4.out.keep (.of_below a)).mono (Z':=λb=>b<wb.heap.size) λb h=>Nat.lt_of_lt_of_le h a.size);have a2:=hid (X.live.mono (Z':=λb=>b<wb.heap.size) λb h=>h.2);clear a X z ar a4 k m d f n;have au:=hid (show Calls prog 18 #[.agg #[.slice D 2 c,.slice (some ⟨lb,lo,none⟩) 3 lc],.agg #[.slice D 2 c,.slice (some ⟨lb,lo+7,none⟩) 2 (lc-1)]] wb (λe w'=>∃v,e= .returned (.tuple #[v,.bool true,.int .i64 0])/\zK (λb=>wb.heap.size<=b) w' v [100,1]/\Below wb.heap.size wb w') from zU9 _ _ _ _ _ _ wb i.out.h.t1 i.out.t3 (λ_ h=>h) (λ_ h=>h) (i.out.tab o.out));obtain⟨k,d,m,f,n⟩:=i.out.h.b1.c2;obtain⟨q0,bq,q1,br,ql⟩:=i.out.b3.c2;go_wp2_with fail
 refine au.out.mono ?_;rintro e wc ⟨vf,rfl,X,a⟩;have aw:=hid (i.out.below a);have P:=hid ((O.out.keep (.of_below a)).mono (Z':=λb=>b<wc.heap.size) λb h=>Nat.lt_of_lt_of_le h a.size);have G:=hid ((a2.out.keep (.of_below a)).mono (Z':=λb=>b<wc.heap.size) λb h=>Nat.lt_of_lt_of_le h a.size);have a3:=hid (X.live.mono (Z':=λb=>b<wc.heap.size) λb h=>h.2);clear a X i au O a2 k m d f n q0 q1 bq br ql;have ai:=hid (zQO wc);rw[<-zVT]at ai;go_wp2_with fail
 refine ai.out.mono ?_;rintro e wd ⟨ND,nn,nc,NL,nm,ba,rfl,a⟩;have ax:=hid (aw.out.below a);have Q:=hid ((P.out.keep (.of_below a)).mono (Z':=λb=>b<wd.heap.size) λb h=>Nat.lt_of_lt_of_le h a.size);have H:=hid ((G.out.keep (.of_below a)).mono (Z':=λb=>b<wd.heap.size) λb h=>Nat.lt_of_lt_of_le h a.size);have K:=hid ((a3.out.keep (.of_below a)).mono (Z':=λb=>b<wd.heap.size) λb h=>Nat.lt_of_lt_of_le h a.size);clear a aw P G a3 ai;go_upto_region 15 with fail
 have g:=zF wd (.cells #[.slice ND nn nc,.slice NL nm ba] 27);have ay:=hid (ax.out.below g);generalize bm:wd.alloc (.cells #[.slice ND nn nc,.slice NL nm ba] 27)=we at*;have R:=hid ((Q.out.keep (.of_below g)).mono (Z':=λb=>b<we.heap.size) λb h=>Nat.lt_of_lt_of_le h g.size);have I:=hid ((H.out.keep (.of_below g)).mono (Z':=λb=>b<we.heap.size) λb h=>Nat.lt_of_lt_of_le h g.size);have M:=hid ((K.out.keep (.of_below g)).mono (Z':=λb=>b<we.heap.size) λb h=>Nat.lt_of_lt_of_le h g.size);clear g bm ax Q H K;go_wp2_with fail
 refine(zJB we).mono ?_;rintro e w' ⟨rfl,hw⟩;subst w';go_wp2_with fail
 have B:=zF we (.cells #[.int .i64 50,.int .i64 0] 3);have ad:=hid (zLW _ _ _ _ [50,0] [50,0] _ (R.out.keep (.of_below B)) (zM4 we 50 0 (by unfold I64;omega) (by unfold I64;omega)));rw[show decide (([50,0]:List Int)=[50,0])=true from by decide]at ad;refine ad.out.mono ?_;rintro e wf ⟨rfl,a⟩;have q:=B.trans (a.mono (by simp));have aq:=hid (zD ay.out.h.be q);have N:=hid ((M.out.keep (.of_below q)).mono (Z':=λb=>b<wf.heap.size) λb h=>Nat.lt_of_lt_of_le h q.size);have J:=hid ((I.out.keep (.of_below q)).mono (Z':=λb=>b<wf.heap.size) λb h=>Nat.lt_of_lt_of_le h q.size);clear B a q M I R ay ad;obtain⟨DA,dc,bi,-,-,-,Y⟩:=J.out.is;obtain⟨db,bc,rfl,bp,C⟩:=Y (by simp);have c0:wf.cell? ⟨db,bc,none⟩=some (.int .i64 3):=by have:=C 0 _ rfl;simpa using this
 have bh:=lt_of_cell c0;subst bi;clear Y C bp J;go_wp2_with fail
 have j:=zF wf (.cells #[.int .i64 100,.int .i64 1] 3);have ae:=hid (zLW _ _ _ _ [100,1] [100,1] _ (N.out.keep (.of_below j)) (zM4 wf 100 1 (by unfold I64;omega) (by unfold I64;omega)));rw[show decide (([100,1]:List Int)=[100,1])=true from by decide]at ae;refine ae.out.mono ?_;rintro e wg ⟨rfl,a⟩;have bb:=hid (zD aq.out (j.trans (a.mono (by simp))));clear j a aq N ae c0 bh;go_wp2_with fail
 go_ret;exact⟨rfl,bb.out⟩
end Go.Proofs.YthpocbeoanipbaaGreatDoor
