/- Texts TG4. -/
import Derived.Test.YthpocbeoanipbaaGreatDoorM34
set_option linter.all false
namespace Go.Proofs.YthpocbeoanipbaaGreatDoor
open Go.RowKit Go.Proofs.Tryz
set_option maxHeartbeats 8000000
set_option maxRecDepth 100000
theorem zKB{P:Program}{κ:Type}[DecidableEq κ]{enc:κ->Value}{t k e:TypeId}{w:World}{b:Nat}{i:List (κ × Value)}{o:Oper}{a:Act}{K:Act->World->Prop}{Q:Exit->Act->World->Prop}(m x y:Operand)(g:o.op=Op.mapUpdate t m x y)
  (j:zEd P k enc)(B:P.underlying t=some (.map k e))(A:a.eval m= .map (some b))(h:zW enc w b i)(key:κ)(C:a.eval x=enc key)
  (z:∀d,zW enc d b (zAU i key (a.eval y))->zA (λc=>c≠b) w d->d.heap.size=w.heap.size->(∀a,d.cell? a=w.cell? a)->(∀a,d.frozen? a=w.frozen? a)->K (a.put o.dst undef) d):Oper.wp P o a w K Q:=by
 obtain⟨d,f,n,q,s,u,v⟩:=h.store j B key (a.eval y);unfold Oper.wp;simp[execOp,g,A,C,f,Result.andThen];exact z d n q s u v
def zVa(w:World)(vd:Value)(st:zD7)(e:Ending)(x:World):Prop:=
 ∃R M vo vp,e= .returned (.pointer (some ⟨R,0,none⟩))/\RgY w x R M (λ_=>False) vd vo vp st.err st.outs st.wh st.parts []
def zSH(w:World)(R M T:Nat)(vd:Value)(st:zD7)(k:Nat)(wr:World):Prop:=
 ∃vo vp TA tcap,RgY w wr R M (λb=>b=T) vd vo vp st.err st.outs st.wh st.parts [(.slice TA st.rest.length tcap,st.rest)]/\Blk wr T 83 #[.slice TA st.rest.length tcap]/\st.outs.length<=k/\st.parts.length=k
theorem RgY.start{d a:World}(c:Bw d a)(vd:Value):
  RgY d ((a.alloc (.map #[] 0)).alloc (.cells #[vd,.int .i64 0,.slice none 0 0,.map (some a.heap.size),.slice none 0 0] 78)) (a.heap.size+1) a.heap.size (λ_=>False) vd (.slice none 0 0) (.slice none 0 0) 0 [] [] [] []:=
 ⟨Blk.new' _ _ _ (by simp),zEr _ _ _ _,⟨[],(zW.made a zE2).of_block (Below.heap_alloc (a.alloc (.map #[] 0)) _ _ (by simp)),trivial⟩,⟨[],zEr _ _ _ _,trivial⟩,λp e=>by simp at e,
  ⟨by have:=c.size;omega,c.size,by omega⟩,λb h=>h.elim,λb h=>by simp[Value.ownBlock]at h,λb h=>by simp[Value.ownBlock]at h,λb h=>by simp[Value.ownBlock]at h,(c.alloc c.size _).alloc (by have:=c.size;simp;omega) _⟩
theorem zMY(Z:zE)(vd vl:Value)(t:zY)(w:World)(h:zAA Z w vd vl t)(hz:∀b,Z b->b<w.heap.size)(hs:∀l∈t.lines,zG l.when_<=1000000)(dm:zAD w.heap.size w):
  Calls prog 38 #[.agg #[vd,vl]] w (zVa w vd (ofS t)):=by
 have h5:= @run_makeMap prog;have bk:=hid (zKA.mk h.d hz dm);obtain⟨D,B,rfl,-⟩:=h.d.form;obtain⟨⟨LA,bi,rfl,gy,gz,bn,dk⟩⟩:=h.l;have ga:=hid dk;have HZ:=hid hz;have f1:=hid hs;have dx:=hid bn;have f8:=hid (show ofS t=zMx (zBc t.dom t.lines) from rfl);have e8:=hid (show zBc t.dom (t.lines.take 0)=zHI t.dom from rfl);have e6:=hid (show t.lines.take t.lines.length=t.lines from List.take_length);generalize ofS t=OF at*;generalize t.dom=ds at*;generalize t.lines=ls at*;clear h dm hz hs dk gy gz bn;go_enter func38,ntmps38
 go_upto_region 1 with fail
 have e7:=hid (zF w (.cells #[.slice D ds.length B,.slice LA ls.length bi] 27));have d6:=hid (Blk.new w 27 #[.slice D ds.length B,.slice LA ls.length bi]);have g7:w.heap.size+1=(w.alloc (.cells #[.slice D ds.length B,.slice LA ls.length bi] 27)).heap.size :=by simp
 generalize w.alloc (.cells #[.slice D ds.length B,.slice LA ls.length bi] 27)=w1 at*;obtain⟨o0,ev,o1,ew,ol⟩:=d6.out.c2;go_upto_region 2 with fail
 have ce:=RgY.start e7.out (.slice D ds.length B);have ff:=hid ((d6.out.alloc (.map #[] 0)).alloc (.cells #[.slice D ds.length B,.int .i64 0,.slice none 0 0,.map (some w1.heap.size),.slice none 0 0] 78));have hw:w.heap.size<w1.heap.size+1:=by omega
 generalize (w1.alloc (.map #[] 0)).alloc (.cells #[.slice D ds.length B,.int .i64 0,.slice none 0 0,.map (some w1.heap.size),.slice none 0 0] 78)=w2 at*;generalize w1.heap.size+1=R at*;generalize w1.heap.size=M at*;have aq:=hid ce;have a5:=hid (λ(W:World) E L(y:RgY w W R M E (.slice D ds.length B) (.slice none 0 0) (.slice none 0 0) 0 [] [] [] L)=>y.build bk.out (f:=tFm) (cs:=[.int .i64 1,.string ⟨#[]⟩,.int .i64 0,.int .i64 0,.slice none 0 0]) (FmR.leaf (Z:=λ_=>False) (w:=W) (op:=1) (by unfold I64;omega)) (λb h=>h.elim) (by rw[show zG tFm=1 from by simp[tFm,zG,zM]];decide));obtain⟨G,bb⟩:∃G,G=zA6 ds 0 tFm:=⟨_,rfl⟩;rw[<-bb]at a5;have b1:=hid bb;clear bb ce g7 o0 o1 ev ew ol e7 d6;go_wp2_with fail
 refine(a5.out _ _ _ aq.out).mono ?_;rintro e w3 ⟨GA,J,rfl,y,C⟩;have ar:=hid y;have fg:=hid (ff.out.keep C (show w.heap.size≠R from by omega));clear C y aq ff a5;go_upto_region 3 with fail
 have bs:=hid (ar.out.alloc (.cells #[.slice GA G.1.length J] 83));have fi:=hid (Blk.new w3 83 #[.slice GA G.1.length J]);have fh:=hid (fg.out.alloc (.cells #[.slice GA G.1.length J] 83));clear ar fg;generalize g3:w3.alloc (.cells #[.slice GA G.1.length J] 83)=w4 at*;generalize hT:w3.heap.size=T at*;clear g3 hT w3
 have aw:=hid (show zSH w R M T (.slice D ds.length B) (zBc ds (ls.take 0)) 0 w4 from by
  rw[e8.out]
  exact⟨_,_,GA,J,by unfold zHI;rw[<-b1.out];exact bs.out.less λb h=> .inr h,by unfold zHI;rw[<-b1.out];exact fi.out,Nat.le_refl _,rfl⟩)
 clear bs fi b1 e8;obtain⟨o0,ev,o1,ew,ol⟩:=fh.out.c2;go_wp2_with fail
 go_loopw[24] (λi wr=>∃k:Nat,k<=ls.length/\i= .int .i64 k/\zSH w R M T (.slice D ds.length B) (zBc ds (ls.take k)) k wr) (λi _=>ls.length-(intOf i).toNat);case atStart=>exact⟨0,Nat.zero_le _,rfl,aw.out⟩
 case round=>
  obtain⟨k,hk,rfl,fv⟩:=hrel;clear aw o0 o1 ev ew ol fh;have aw:=hid fv;clear fv;by_cases en:k<ls.length
  ·obtain⟨b,g9,cs,rfl,fy,ej,fw⟩:=ga.out.at_ en;have g1:=HZ.out b fy;have fs:=f1.out ls[k] (List.getElem_mem en);have gb:=hid (show zBc ds (ls.take (k+1))=stepG ds (zBc ds (ls.take k)) ls[k] from by unfold zBc;rw[List.take_succ_eq_append_getElem en,List.foldl_append];rfl);(have h0:((k:Nat):Int)<(ls.length:Int):=by omega);generalize ls[k]=x at*;obtain⟨f,n,q⟩:=x;obtain⟨FA,ax,rfl,em⟩:=fw.form;dsimp only at ej em fs;generalize zBc ds (ls.take k)=s at*;obtain⟨vo,vq,TA,P,al,cq,a1⟩:=aw.out;(have hc:∀(j:Nat)(u:Value),[Value.int .i64 f.op,.string f.name,.int .i64 f.cmp,.int .i64 f.num,.slice FA f.kids.length ax,.string n,.bool q][j]? =some u->wr.cell? ⟨b,g9+k*7+j,none⟩=some u:=λj u hu=>(al.be.cell (p:=⟨b,_,none⟩) g1).trans (ej j u hu));have c0:=hc 0 _ rfl;have c1:=hc 1 _ rfl;have c2:=hc 2 _ rfl;have c3:=hc 3 _ rfl;have c4:=hc 4 _ rfl;have c5:=hc 5 _ rfl;have c6:=hc 6 _ rfl;simp only[Nat.add_zero]at c0;have hy:=lt_of_cell c0;have e9:=hid em;have ak:=hid al;have b7:=hid cq;have b2:=hid a1;clear ej hc fw em al cq a1 aw;(go_upto_region 6 with fail);have au:=hid (ak.out.alloc (.cells #[.int .i64 f.op,.string f.name,.int .i64 f.cmp,.int .i64 f.num,.slice FA f.kids.length ax,.string n,.bool q] 42));have bg:=hid (Blk.new wr 42 #[.int .i64 f.op,.string f.name,.int .i64 f.cmp,.int .i64 f.num,.slice FA f.kids.length ax,.string n,.bool q]);have df:=hid (b7.out.alloc (.cells #[.int .i64 f.op,.string f.name,.int .i64 f.cmp,.int .i64 f.num,.slice FA f.kids.length ax,.string n,.bool q] 42));have gw:=ak.out.rl;have cg:=(ak.out.ex T rfl).2.2.1;have gx:=(ak.out.ex T rfl).2.1;have hv:=ak.out.ml;clear c0 c1 c2 c3 c4 c5 c6 ak b7;generalize eo:wr.alloc (.cells #[.int .i64 f.op,.string f.name,.int .i64 f.cmp,.int .i64 f.num,.slice FA f.kids.length ax,.string n,.bool q] 42)=w5 at*;generalize gs:wr.heap.size=LX at*;clear eo gs wr;have ht:=bg.out.lt;have a5:=hid (λ(W:World) E L(y:RgY w W R M E (.slice D ds.length B) vo vq s.err s.outs s.wh s.parts L)=>y.build bk.out (FmR.keep (.of_below_lt y.be λb _ C=>HZ.out b C) _ _ e9.out) (λb h=>Nat.lt_of_lt_of_le (HZ.out b h) y.be.size) fs);obtain⟨G,bb⟩:∃G,G=zA6 ds s.err f:=⟨_,rfl⟩;rw[<-bb]at a5;have b1:=hid bb;clear bb;obtain⟨p0,cr,p1,ey,p2,ez,p3,e0,p4,e1,p5,e2,p6,e3,pl⟩:=bg.out.c7;(go_wp2_with fail);refine(a5.out _ _ _ au.out).mono ?_;rintro e w6 ⟨GA,J,rfl,y,C⟩;have av:=hid y;have cy:=hid (bg.out.keep C (show LX≠R from by omega));have bh:=hid (df.out.keep C cg);clear C y au bg df p0 p1 p2 p3 p4 p5 p6 cr ey ez e0 e1 e2 e3 pl a5 e9;(go_upto_region 7 with fail);have bl:=hid (av.out.alloc (.cells #[.slice GA G.1.length J] 83));have b0:=hid (Blk.new w6 83 #[.slice GA G.1.length J]);have cz:=hid (cy.out.alloc (.cells #[.slice GA G.1.length J] 83));have cd:=hid (bh.out.alloc (.cells #[.slice GA G.1.length J] 83));have hg:=av.out.rl;clear av cy bh;generalize g4:w6.alloc (.cells #[.slice GA G.1.length J] 83)=w7 at*;generalize gr:w6.heap.size=GX at*;clear g4 gr w6;have dt:=hid (λ(W:World) E L er a b va vb(y:RgY w W R M E (.slice D ds.length B) vo vq er s.outs s.wh s.parts L) ha C=>y.and (va:=va) (vb:=vb) (a:=a) (b:=b) bk.out ha C);have bo:=hid (dt.out _ _ _ _ s.rest G.1 (.slice TA s.rest.length P) (.slice GA G.1.length J) bl.out (by simp) (by simp));obtain⟨H,d7⟩:∃H,H=zAx ds G.2 s.rest G.1:=⟨_,rfl⟩;rw[<-d7]at bo;have f2:=hid d7;clear d7;obtain⟨p0,cr,pl⟩:=cd.out.c1;obtain⟨q0,hd,ql⟩:=b0.out.c1;(go_wp2_with fail);refine bo.out.mono ?_;rintro e w8 ⟨HA,N,rfl,y,C⟩;have dv:=hid y;have c8:=hid (cz.out.keep C (show LX≠R from by omega));have dg:=hid (cd.out.keep C cg);have cw:=hid (b0.out.keep C (show GX≠R from by omega));clear C y bl cz cd b0 bo p0 cr pl q0 hd ql;(go_upto_region 8 with fail);have dw:=hid (dv.out.alloc (.cells #[.slice HA H.1.length N] 83));have db:=hid (Blk.new w8 83 #[.slice HA H.1.length N]);have c9:=hid (c8.out.alloc (.cells #[.slice HA H.1.length N] 83));have dh:=hid (dg.out.alloc (.cells #[.slice HA H.1.length N] 83));have cx:=hid (cw.out.alloc (.cells #[.slice HA H.1.length N] 83));have hh:=dv.out.rl;clear dv c8 dg cw;generalize g5:w8.alloc (.cells #[.slice HA H.1.length N] 83)=w9 at*;generalize gu:w8.heap.size=PX at*;clear g5 gu w8;obtain⟨p0,cr,p1,ey,p2,ez,p3,e0,p4,e1,p5,e2,p6,e3,pl⟩:=c9.out.c7;(go_upto_region 9 with fail);have di:=dw.out.alloc (.cells #[.string n,.bool q] 85);have bc:=hid di;have a7:=hid (Blk.new w9 85 #[.string n,.bool q]);have b4:=hid (db.out.alloc (.cells #[.string n,.bool q] 85));have b8:=hid (dh.out.alloc (.cells #[.string n,.bool q] 85));have bt:=hid (cx.out.alloc (.cells #[.string n,.bool q] 85));have hi:=dw.out.rl;clear dw db c9 dh cx p0 p1 p2 p3 p4 p5 p6 cr ey ez e0 e1 e2 e3 pl di;generalize fx:w9.alloc (.cells #[.string n,.bool q] 85)=af at*;generalize eh:w9.heap.size=Q at*;clear fx eh w9;obtain⟨kv,hm,ft⟩:=bc.out.map;have dy:=hid hm;have fa:=hid (ft.get (n,q));clear hm ft
   obtain⟨YA,yl,bj,fb,ck⟩:∃YA yl bj,∃fb:Bool,((if true then Value.tuple #[(zg kv (n,q)).getD (.agg #[.slice none 0 0]),.bool (zg kv (n,q)).isSome]else(zg kv (n,q)).getD (.agg #[.slice none 0 0]))= .tuple #[.agg #[.slice YA yl bj],.bool fb])/\fb=(kvD s.wh (n,q)).isSome :=by
    rcases fa.out with⟨U,h2⟩|⟨v,g,U,h2,h3⟩
    ·exact⟨none,0,0,false,by rw[if_pos rfl,U];rfl,by rw[h2];rfl⟩
    ·obtain⟨A,c,rfl,-⟩:=h3.open_;exact⟨A,g.length,c,true,by rw[if_pos rfl,U];rfl,by rw[h2];rfl⟩
   have du:=hid ck;clear ck fa
   have fc:=hid (λ(W:World)(hW:zA (λ_=>True) af W)=>(show(Instr.lookup 75 (.map (some M)) (.agg #[.string n,.bool q]) true).run prog W= .ok (.tuple #[.agg #[.slice YA yl bj],.bool fb]) W from by
    have g2:zW zE2 W M kv:=dy.out.of_block (hW.block M dy.out.lt trivial);have:=g2.look zGK (t:=75) (e:=83) underlying75 (Tryz.zeroDia W) (n,q) true;rw[du.out.1]at this
    exact this))
   have HC:=hid (λ(W:World)(hW:zA (λ_=>True) af W)=>(show W.cell? ⟨R,3,none⟩=some (.map (some M))/\W.cell? ⟨Q,0,none⟩=some (.string n)/\W.cell? ⟨Q,1,none⟩=some (.bool q)/\Q<W.heap.size/\R<W.heap.size from by
    have U:=a7.out.keep hW trivial;have h3:=bc.out.box.keep hW trivial
    exact⟨h3.at3,U.at0,U.at1,U.lt,h3.lt⟩))
   have ce:=bc.out.drew;go_cut[10,11] from 41 to 50 (λvp hf wx=>∃bx,vp= .pointer (some ⟨bx,0,none⟩)/\hf= .bool fb/\Blk wx bx 83 #[.slice YA yl bj]/\af.heap.size<=bx/\zA (λ_=>True) af wx/\RgY w wx R M (λb=>((((b=T\/b=LX)\/b=GX)\/b=PX)\/b=Q)\/b=bx) (.slice D ds.length B) vo vq H.2 s.outs s.wh s.parts [(.slice HA H.1.length N,H.1),(.slice GA G.1.length J,G.1),(.slice TA s.rest.length P,s.rest)])
   case first=>
    refine zL 10 (λW=>zA (λ_=>True) af W) (by kernel_rfl) ?_;have aa:zA (λ_=>True) af af.drew:=(zA.refl _ _).drew;have z:(λW=>zA (λ_=>True) af W) af.drew:=aa;generalize af.drew=x0 at*
    (refine tkQ 0 z ?_;simp only[nr])
    (refine tkQ 1 z ?_;simp only[nr])
    (refine tkQ 2 z ?_;simp only[nr])
    (refine tkS 3 ?_ z ?_ ?_;rotate_left;intro w m;obtain⟨m0,p0,p1,l0,l1⟩:=HC.out _ m;clear m;go_simp;(try with_reducible rfl);simp only[nr])
    (refine tkS 4 ?_ z ?_ ?_;rotate_left;intro w m;obtain⟨m0,p0,p1,l0,l1⟩:=HC.out _ m;clear m;go_simp;(try with_reducible rfl);simp only[nr])
    (refine tkS 5 ?_ z ?_ ?_;rotate_left;intro w m;have h4:=fc.out _ m;clear m;go_simp;(try with_reducible rfl);simp only[nr])
    (refine tkQ 6 z ?_;simp only[nr])
    (refine tkQ 7 z ?_;simp only[nr])
    (refine tkQ 8 z ?_;simp only[nr])
    clear z;refine wS1 9 (λK F=> ?_);(go_wp2_with fail);refine F _ _ (Or.inr (aa.alloc _)) ?_;clear F K
    (try simp only[nr])
    have aj:zA (λ_=>True) af (x0.alloc (.cells #[.slice none 0 0] 83)):=aa.alloc _;have ch:=Blk.new x0 83 #[.slice none 0 0];have gq:=ce.alloc (.cells #[.slice none 0 0] 83);generalize x0.alloc (.cells #[.slice none 0 0] 83)=x1 at*;refine wS1 10 (λK F=> ?_);have c0:=ch.at0;have g0:=ch.frozen 0;have cl:=ch.lt;have gg:=hid ch;clear ch;(go_wp2_with fail);refine F _ _ (Or.inl rfl) ?_;clear F K
    (try simp only[nr])
    refine wS1 11 (λK F=> ?_);(go_wp2_with fail);refine F _ _ (Or.inl rfl) ?_;clear F K
    (try simp only[nr])
    refine wSd ?_ _;(go_wp2_with fail);go_meet;exact⟨x0.heap.size,rfl,rfl,(gg.out.set_ 0 _),aa.size,(aj.setCell (λ(h:x0.heap.size<af.heap.size)=>absurd aa.size (Nat.not_le_of_lt h)) _),gq.setBox (Or.inr rfl) 0 _⟩
   obtain⟨bx,rfl,rfl,hx,g6,C,y⟩:=hcut;(rename World=>w11);obtain⟨E6,ag⟩:∃E:zE,E=(λb=>((((b=T\/b=LX)\/b=GX)\/b=PX)\/b=Q)\/b=bx):=⟨_,rfl⟩;rw[<-ag]at y;have a6:=hid (show E6 T by rw[ag];simp);have bp:=hid (show E6 GX by rw[ag];simp);have bq:=hid (show E6 PX by rw[ag];simp);have ap:=hid (show E6 Q by rw[ag];simp);have bd:=hid y;have ac:=hid (And.intro b2.out dx.out);have b5:=hid (b4.out.keep C trivial);have b9:=hid (b8.out.keep C trivial);have bu:=hid (bt.out.keep C trivial);have a8:=hid (a7.out.keep C trivial);have ck:=du.out.2;have cu:=hid ck;clear ag ck hx C y ce g6 bc b4 b8 bt a7 du fc HC dy;(go_upto_if 51 with fail);go_cut[] from 50 to 62 (λwx=>∃ad,RgY w wx R M E6 (.slice D ds.length B) ad vq H.2 (if fb then s.outs else s.outs++[(n,q)]) s.wh s.parts [(.slice HA H.1.length N,H.1),(.slice GA G.1.length J,G.1),(.slice TA s.rest.length P,s.rest)]/\zA E6 w11 wx)
   case first=>
    clear cu;have fu:=ac.out.1.1;have bn:=ac.out.2;cases fb
    ·
     go_upto_region 11 with fail
     have HC:=hid (λ(W:World)(hW:zA (λb=>b=R\/b=Q) w11 W)=>(show W.cell? ⟨R,2,none⟩=some vo/\R<W.heap.size/\W.cell? ⟨Q,0,none⟩=some (.string n)/\W.cell? ⟨Q,1,none⟩=some (.bool q)/\Q<W.heap.size from by
      have U:=a8.out.keep hW (.inr rfl);have h3:=bd.out.box.keep hW (.inl rfl)
      exact⟨h3.at2,h3.lt,U.at0,U.at1,U.lt⟩))
     refine zL 10 (λW=>zA (λb=>b=R\/b=Q) w11 W) (by kernel_rfl) ?_;have aa:zA (λb=>b=R\/b=Q) w11 w11.drew:=(zA.refl _ _).drew;have z:(λW=>zA (λb=>b=R\/b=Q) w11 W) w11.drew:=aa;have I:=hid bd.out.drew;have ah:=(zA.refl E6 w11).drew;generalize w11.drew=x0 at*
     (refine tkQ 0 z ?_;simp only[nr])
     try simp only[nq]
     (refine tkQ 1 z ?_;simp only[nr])
     try simp only[nq]
     (refine tkQ 2 z ?_;simp only[nr])
     try simp only[nq]
     (refine tkQ 3 z ?_;simp only[nr])
     try simp only[nq]
     (refine tkS 4 ?_ z ?_ ?_;rotate_left;intro w m;obtain⟨r2,rl,o0,o1,ol⟩:=HC.out _ m;clear m;go_simp;(try with_reducible rfl);simp only[nr])
     try simp only[nq]
     (refine tkS 5 ?_ z ?_ ?_;rotate_left;intro w m;obtain⟨r2,rl,o0,o1,ol⟩:=HC.out _ m;clear m;go_simp;(try with_reducible rfl);simp only[nr])
     (try simp only[nq]);clear z;have aj:=aa.alloc (.cells #[.string n,.bool q] 85);refine wS1 6 (λK F=> ?_);(go_wp2_with fail);refine F _ _ (Or.inr aj) ?_;clear F K;(try simp only[nq]);have dn:=I.out.be.size;refine wS1 7 (λK F=> ?_);refine zAz (.tmp 56) (.tmp 58) _ rfl underlying74 Tryz.eOut rfl (I.out.outs.alloc _) rfl (news:=[.string n,.bool q]) rfl (zCn (Blk.new _ _ _)) (by simp[Value.oneCell']) (by unfold maxLen;omega) (by omega) (by simp;omega) ?_;intro v6 x6 O ab ae;obtain⟨VA,a2,rfl,-⟩:=Row.of_own O (by decide);have HP:=hid (I.out.pushO (o:=(n,q)) O ab ae)
     have ay:zA (λb=>b=R\/b=Q) w11 x6:=aj.grown ab (λk e _ hz=>by
      have U:=I.out.s1 k e;rcases hz with hz|hz
      ·exact U.1 hz
      ·exact U.2.2 (hz▸ap.out))
     have cf:=((ah.alloc (.cells #[.string n,.bool q] 85)).grown ab (λk e _ hz=>(I.out.s1 k e).2.2 hz)).setCell (p:=⟨R,2,none⟩) (λ_ h=>(I.out.ex R h).2.2.1 rfl) (.slice VA (s.outs.length+1) a2);refine F _ _ (Or.inr ay) ?_;clear F K O ab ae
     (try simp only[nr])
     have z:(λW=>zA (λb=>b=R\/b=Q) w11 W) x6:=ay
     (refine tkQ 8 z ?_;simp only[nr])
     (try simp only[nr])
     (refine tkQ 9 z ?_;simp only[nr])
     (try simp only[nr])
     clear z;obtain⟨d0,fj,d1,fk,d2,fl,d3,fo,d4,fp,dl⟩:=HP.out.1.c5;refine wS1 10 (λK F=> ?_);(go_wp2_with fail);refine F _ _ (Or.inl rfl) ?_;clear F K;(try simp only[nq]);refine wSd ?_ _;(go_wp2_with fail);go_meet;exact⟨_,HP.out.2,cf⟩
    ·(go_wp2_with fail);go_meet;exact⟨vo,bd.out,zA.refl _ _⟩
   obtain⟨ad,y,C⟩:=hcut;(rename World=>w12);have ca:=hid (b9.out.keep C a6.out);have a9:=hid (b5.out.keep C bq.out);have bv:=hid (bu.out.keep C bp.out);have b3:=hid (a8.out.keep C ap.out);have da:=hid (show(if fb then s.outs else s.outs++[(n,q)]).length <=k+1 from by have:=ac.out.1.1;split<;>simp<;>omega);obtain⟨OO,eg⟩:∃OO,OO=(if fb then s.outs else s.outs++[(n,q)]):=⟨_,rfl⟩;rw[<-eg]at y da;have f9:=hid eg;have bf:=hid y;clear eg y C bd b9 b5 bu a8;obtain⟨X,hX⟩:∃X,X=atE ds H.2 s.wh (n,q):=⟨_,rfl⟩;obtain⟨N1,ec⟩:∃N1,N1=zAC X.1:=⟨_,rfl⟩;obtain⟨N2,ed⟩:∃N2,N2=zAC H.1:=⟨_,rfl⟩;obtain⟨Y,hY⟩:∃Y,Y=zAx ds X.2 N1 N2:=⟨_,rfl⟩;obtain⟨N3,ee⟩:∃N3,N3=zAC Y.1:=⟨_,rfl⟩;obtain⟨N4,ef⟩:∃N4,N4=zAC G.1:=⟨_,rfl⟩;obtain⟨V,hV⟩:∃V,V=zAx ds Y.2 s.rest N4:=⟨_,rfl⟩;obtain⟨WH,ei⟩:∃WH,WH=zC3 s.wh (n,q) N3:=⟨_,rfl⟩
   have dc:=hid (show stepG ds s ⟨f,n,q⟩=⟨V.2,OO,WH,s.parts++[H.1],V.1⟩ from by
    unfold stepG zAo;dsimp only
    rw[<-b1.out,<-f2.out,<-hX,<-ec,<-ed,<-hY,<-ef,<-hV,<-ee,f9.out,cu.out,ei])
   have gf:=hid hX;have f4:=hid ec;have f5:=hid ed;have gh:=hid hY;have f6:=hid ee;have f7:=hid ef;have gc:=hid hV;have gd:=hid ei;clear hX ec ed hY ee ef hV ei;(go_upto_region 12 with fail);go_cut[] from 62 to 76 (λwx=>RgY w wx R M E6 (.slice D ds.length B) ad vq Y.2 OO WH s.parts [(.slice HA H.1.length N,H.1),(.slice GA G.1.length J,G.1),(.slice TA s.rest.length P,s.rest)]/\zA E6 w12 wx)
   case first=>
    have dz:=hid (λ(W:World) E L er v g(y:RgY w W R M E (.slice D ds.length B) ad vq er OO s.wh s.parts L) hL=>y.not (v:=v) (g:=g) hL);have dt:=hid (λ(W:World) E L er a b va vb(y:RgY w W R M E (.slice D ds.length B) ad vq er OO s.wh s.parts L) ha C=>y.and (va:=va) (vb:=vb) (a:=a) (b:=b) bk.out ha C);have f0:=hid (λ(W:World) E L er(y:RgY w W R M E (.slice D ds.length B) ad vq er OO s.wh s.parts L)=>y.at_ bk.out (n,q))
    have HC:=hid (λ(W:World)(hW:W.cell? ⟨R,3,none⟩=some (.map (some M))/\R<W.heap.size/\zA (λb=>b=Q\/b=PX) w12 W)=>(show W.cell? ⟨R,3,none⟩=some (.map (some M))/\R<W.heap.size/\W.cell? ⟨Q,0,none⟩=some (.string n)/\W.cell? ⟨Q,1,none⟩=some (.bool q)/\Q<W.heap.size/\W.cell? ⟨PX,0,none⟩=some (.slice HA H.1.length N)/\PX<W.heap.size from by
     have U:=b3.out.keep hW.2.2 (.inl rfl);have h3:=a9.out.keep hW.2.2 (.inr rfl)
     exact⟨hW.1,hW.2.1,U.at0,U.at1,U.lt,h3.at0,h3.lt⟩))
    (have hl:Q≠R:=by omega);(have hn:PX≠R:=by omega);refine zL 14 (λW=>W.cell? ⟨R,3,none⟩=some (.map (some M))/\R<W.heap.size/\zA (λb=>b=Q\/b=PX) w12 W) (by kernel_rfl) ?_;(have ci:∀b:Nat,b=Q\/b=PX->b≠R:=λb h=>by rcases h with rfl|rfl<;>assumption);have z:(λW:World=>W.cell? ⟨R,3,none⟩=some (.map (some M))/\R<W.heap.size/\zA (λb=>b=Q\/b=PX) w12 W) w12.drew:=⟨bf.out.drew.box.at3,bf.out.drew.rl,(zA.refl _ _).drew⟩;have I:=hid bf.out.drew;have ah:=(zA.refl (λc=>c≠R) w12).drew;generalize w12.drew=x0 at*
    (refine tkQ 0 z ?_;simp only[nr])
    try simp only[nq]
    (refine tkQ 1 z ?_;simp only[nr])
    try simp only[nq]
    (refine tkQ 2 z ?_;simp only[nr])
    try simp only[nq]
    (refine tkS 3 ?_ z ?_ ?_;rotate_left;intro w m;obtain⟨r3,rl,o0,o1,ol,p0,pl⟩:=HC.out _ m;clear m;go_simp;(try with_reducible rfl);simp only[nr])
    try simp only[nq]
    (refine tkS 4 ?_ z ?_ ?_;rotate_left;intro w m;obtain⟨r3,rl,o0,o1,ol,p0,pl⟩:=HC.out _ m;clear m;go_simp;(try with_reducible rfl);simp only[nr])
    try simp only[nq]
    (refine tkQ 5 z ?_;simp only[nr])
    try simp only[nq]
    (refine tkQ 6 z ?_;simp only[nr])
    try simp only[nq]
    (refine tkS 7 ?_ z ?_ ?_;rotate_left;intro w m;obtain⟨r3,rl,o0,o1,ol,p0,pl⟩:=HC.out _ m;clear m;go_simp;(try with_reducible rfl);simp only[nr])
    try simp only[nq]
    (refine tkS 10 ?_ z ?_ ?_;rotate_left;intro w m;obtain⟨r3,rl,o0,o1,ol,p0,pl⟩:=HC.out _ m;clear m;go_simp;(try with_reducible rfl);simp only[nr])
    (try simp only[nq]);clear z;have a3:=hid (f0.out _ _ _ _ I.out);rw[<-gf.out]at a3;refine wS1 8 (λK F=> ?_);(go_wp2_with fail);refine a3.out.mono ?_;rintro e x1 ⟨XA,fz,rfl,y,C⟩;have ai:=hid y;have az:=ah.trans C;refine F _ _ (Or.inr ⟨y.box.at3,y.rl,az.mono λb _ h=>ci b h⟩) ?_;clear F K C y I a3
    (try simp only[nr])
    have a4:=hid (dz.out _ _ _ _ (.slice XA X.1.length fz) X.1 ai.out (by simp));rw[<-f4.out]at a4;refine wS1 9 (λK F=> ?_);(go_wp2_with fail);refine a4.out.mono ?_;rintro e x2 ⟨gi,ep,rfl,y,C⟩;have aq:=hid y;have d8:=az.trans C;refine F _ _ (Or.inr ⟨y.box.at3,y.rl,d8.mono λb _ h=>ci b h⟩) ?_;clear F K C y ai a4
    (try simp only[nr])
    have dp:=hid (dz.out _ _ _ _ (.slice HA H.1.length N) H.1 aq.out (by simp));rw[<-f5.out]at dp;refine wS1 11 (λK F=> ?_);(go_wp2_with fail);refine dp.out.mono ?_;rintro e x3 ⟨gj,es,rfl,y,C⟩;have ar:=hid y;have d9:=d8.trans C;refine F _ _ (Or.inr ⟨y.box.at3,y.rl,d9.mono λb _ h=>ci b h⟩) ?_;clear F K C y aq dp
    (try simp only[nr])
    have dq:=hid (dt.out _ _ _ _ N1 N2 (.slice gi N1.length ep) (.slice gj N2.length es) ar.out (by simp) (by simp));rw[<-gh.out]at dq;refine wS1 12 (λK F=> ?_);(go_wp2_with fail);refine dq.out.mono ?_;rintro e x4 ⟨gp,e5,rfl,y,C⟩;have bs:=hid y;have ea:=d9.trans C;refine F _ _ (Or.inr ⟨y.box.at3,y.rl,ea.mono λb _ h=>ci b h⟩) ?_;clear F K C y ar dq
    (try simp only[nr])
    have dr:=hid (dz.out _ _ _ _ (.slice gp Y.1.length e5) Y.1 bs.out (by simp));rw[<-f6.out]at dr;refine wS1 13 (λK F=> ?_);(go_wp2_with fail);refine dr.out.mono ?_;rintro e x5 ⟨gm,et,rfl,y,C⟩;have au:=hid y;have eb:=ea.trans C;refine F _ _ (Or.inr ⟨y.box.at3,y.rl,eb.mono λb _ h=>ci b h⟩) ?_;clear F K C y bs dr
    (try simp only[nr])
    obtain⟨g8,cn,a0⟩:=au.out.map;refine wS1 14 (λK F=> ?_);refine zKB (.tmp 65) (.tmp 66) (.tmp 75) rfl zGK underlying75 rfl cn (n,q) rfl ?_;intro x6 co bm cp cj cm;have av:=hid ((au.out.setM a0 (o:=(n,q)) (v:= .slice gm N3.length et) (g:=N3) (by simp) co bm).sub (L':=[(.slice HA H.1.length N,H.1),(.slice GA G.1.length J,G.1),(.slice TA s.rest.length P,s.rest)]) (λp hp=> .tail _ (.tail _ (.tail _ (.tail _ (.tail _ hp))))));(have fq:∀b,E6 b->b≠R/\b≠M:=λb C=>⟨(au.out.ex b C).2.2.1,(au.out.ex b C).2.2.2⟩);have f3:=hid ((eb.mono λb _ h=>(fq b h).1).trans (bm.mono λb _ h=>(fq b h).2):zA E6 w12 x6);refine F _ _ (Or.inl rfl) ?_;clear F K cn a0 co bm cp cj cm au ah az d8 d9 ea eb
    (try simp only[nr])
    refine wSd ?_ _;(go_wp2_with fail);go_meet;exact⟨by rw[gd.out];exact av.out,f3.out⟩
   obtain⟨y,C⟩:=hcut;(rename World=>w13);have br:=hid y;have cb:=hid (ca.out.keep C a6.out);have b6:=hid (a9.out.keep C bq.out);have bw:=hid (bv.out.keep C bp.out);clear y C ca a9 bv b3 bf;(go_upto_region 13 with fail);go_cut[] from 76 to 86 (λwx=>∃e4,RgY w wx R M E6 (.slice D ds.length B) ad e4 Y.2 OO WH (s.parts++[H.1]) [(.slice HA H.1.length N,H.1),(.slice GA G.1.length J,G.1),(.slice TA s.rest.length P,s.rest)]/\zA E6 w13 wx)
   case first=>
    have fu:s.parts.length<=k:=Nat.le_of_eq ac.out.1.2;have bn:=ac.out.2;go_upto_region 13 with fail
    have HC:=hid (λ(W:World)(hW:zA (λb=>b=R\/b=PX) w13 W)=>(show W.cell? ⟨R,4,none⟩=some vq/\R<W.heap.size/\W.cell? ⟨PX,0,none⟩=some (.slice HA H.1.length N)/\PX<W.heap.size from by
     have U:=b6.out.keep hW (.inr rfl);have h3:=br.out.box.keep hW (.inl rfl)
     exact⟨h3.at4,h3.lt,U.at0,U.lt⟩))
    refine zL 10 (λW=>zA (λb=>b=R\/b=PX) w13 W) (by kernel_rfl) ?_;have aa:zA (λb=>b=R\/b=PX) w13 w13.drew:=(zA.refl _ _).drew;have z:(λW=>zA (λb=>b=R\/b=PX) w13 W) w13.drew:=aa;have I:=hid br.out.drew;have ah:=(zA.refl E6 w13).drew;generalize w13.drew=x0 at*
    (refine tkQ 0 z ?_;simp only[nr])
    try simp only[nq]
    (refine tkQ 1 z ?_;simp only[nr])
    try simp only[nq]
    (refine tkQ 2 z ?_;simp only[nr])
    try simp only[nq]
    (refine tkQ 3 z ?_;simp only[nr])
    try simp only[nq]
    (refine tkS 4 ?_ z ?_ ?_;rotate_left;intro w m;obtain⟨r2,rl,o0,ol⟩:=HC.out _ m;clear m;go_simp;(try with_reducible rfl);simp only[nr])
    try simp only[nq]
    (refine tkS 5 ?_ z ?_ ?_;rotate_left;intro w m;obtain⟨r2,rl,o0,ol⟩:=HC.out _ m;clear m;go_simp;(try with_reducible rfl);simp only[nr])
    (try simp only[nq]);clear z;have aj:=aa.alloc (.cells #[.slice HA H.1.length N] 83);refine wS1 6 (λK F=> ?_);(go_wp2_with fail);refine F _ _ (Or.inr aj) ?_;clear F K;(try simp only[nq]);have dn:=I.out.be.size;obtain⟨hr,dj,ek⟩:=I.out.parts;refine wS1 7 (λK F=> ?_);refine zAz (.tmp 80) (.tmp 82) _ rfl underlying76 Tryz.eDia rfl (dj.alloc _) rfl (news:=[.slice HA H.1.length N]) rfl (zCn (Blk.new _ _ _)) (by simp[Value.oneCell']) (by unfold maxLen;omega) (by omega) (by simp;omega) ?_;intro v6 x6 O ab ae;obtain⟨VA,a2,rfl,-⟩:=Row.of_own O (by decide);have HP:=hid (I.out.pushP (L:=_) (g:=H.1) (v:= .slice HA H.1.length N) (by simp) dj ek O ab ae)
    have ay:zA (λb=>b=R\/b=PX) w13 x6:=aj.grown ab (λk e _ hz=>by
     have U:=I.out.s2 k e;rcases hz with hz|hz
     ·exact U.1 hz
     ·exact U.2.2 (hz▸bq.out))
    have cf:=((ah.alloc (.cells #[.slice HA H.1.length N] 83)).grown ab (λk e _ hz=>(I.out.s2 k e).2.2 hz)).setCell (p:=⟨R,4,none⟩) (λ_ h=>(I.out.ex R h).2.2.1 rfl) (.slice VA (s.parts.length+1) a2);refine F _ _ (Or.inr ay) ?_;clear F K O ab ae
    (try simp only[nr])
    have z:(λW=>zA (λb=>b=R\/b=PX) w13 W) x6:=ay
    (refine tkQ 8 z ?_;simp only[nr])
    (try simp only[nr])
    (refine tkQ 9 z ?_;simp only[nr])
    (try simp only[nr])
    clear z;obtain⟨d0,fj,d1,fk,d2,fl,d3,fo,d4,fp,dl⟩:=HP.out.1.c5;refine wS1 10 (λK F=> ?_);(go_wp2_with fail);refine F _ _ (Or.inl rfl) ?_;clear F K;(try simp only[nq]);refine wSd ?_ _;(go_wp2_with fail);go_meet;exact⟨_,HP.out.2,cf⟩
   obtain⟨e4,y,C⟩:=hcut;(rename World=>w14);have cv:=hid y;have ba:=hid (cb.out.keep C a6.out);have bz:=hid (bw.out.keep C bp.out);clear y C cb b6 bw br;go_upto_region 14 with fail
   have HC:=hid (λ(W:World)(hW:zA (λb=>b=T\/b=GX) w14 W)=>(show W.cell? ⟨T,0,none⟩=some (.slice TA s.rest.length P)/\T<W.heap.size/\W.cell? ⟨GX,0,none⟩=some (.slice GA G.1.length J)/\GX<W.heap.size from by
    have U:=ba.out.keep hW (.inl rfl);have h3:=bz.out.keep hW (.inr rfl)
    exact⟨U.at0,U.lt,h3.at0,h3.lt⟩))
   have ho:T≠R:=cg;(have hj:GX≠R:=by omega);(have fr:∀b:Nat,b=T\/b=GX->b≠R:=λb h=>by rcases h with rfl|rfl<;>assumption);refine zL 5 (λW=>zA (λb=>b=T\/b=GX) w14 W) (by kernel_rfl) ?_;have z:(λW:World=>zA (λb=>b=T\/b=GX) w14 W) w14.drew:=(zA.refl _ _).drew;have I:=hid cv.out.drew;have ah:=(zA.refl (λc=>c≠R) w14).drew;generalize w14.drew=x0 at*
   (refine tkQ 0 z ?_;simp only[nr])
   try simp only[nq]
   (refine tkS 1 ?_ z ?_ ?_;rotate_left;intro w m;obtain⟨t0,tl,g0,gl⟩:=HC.out _ m;clear m;go_simp;(try with_reducible rfl);simp only[nr])
   try simp only[nq]
   (refine tkS 2 ?_ z ?_ ?_;rotate_left;intro w m;obtain⟨t0,tl,g0,gl⟩:=HC.out _ m;clear m;go_simp;(try with_reducible rfl);simp only[nr])
   (try simp only[nq]);clear z;have a3:=hid (I.out.not (v:= .slice GA G.1.length J) (g:=G.1) (by simp));rw[<-f7.out]at a3;refine wS1 3 (λK F=> ?_);(go_wp2_with fail);refine a3.out.mono ?_;rintro e x1 ⟨gn,eu,rfl,y,C⟩;have ai:=hid y;have az:=ah.trans C;refine F _ _ (Or.inr (az.mono λb _ h=>fr b h)) ?_;clear F K C y I a3
   (try simp only[nr])
   have a4:=hid (ai.out.and bk.out (va:= .slice TA s.rest.length P) (vb:= .slice gn N4.length eu) (a:=s.rest) (b:=N4) (by simp) (by simp));rw[<-gc.out]at a4;refine wS1 4 (λK F=> ?_);(go_wp2_with fail);refine a4.out.mono ?_;rintro e x2 ⟨ct,ao,rfl,y,C⟩;have aq:=hid y;have cc:=hid (ba.out.keep (az.trans C) cg);refine F _ _ (Or.inr ((az.trans C).mono λb _ h=>fr b h)) ?_;clear F K C y ai a4 ah az
   (try simp only[nr])
   obtain⟨c0,hq,cl⟩:=cc.out.c1;refine wS1 5 (λK F=> ?_);(go_wp2_with fail);refine F _ _ (Or.inl rfl) ?_;clear F K;(try simp only[nq]);refine wSd ?_ _;have de:=hid (cc.out.set_ 0 (.slice ct V.1.length ao));have ar:=hid (aq.out.setBox a6.out 0 (.slice ct V.1.length ao))
   have fe:=hid (show zSH w R M T (.slice D ds.length B) (stepG ds s ⟨f,n,q⟩) (k+1) (x2.setCell ⟨T,0,none⟩ (.slice ct V.1.length ao)) from by
    rw[dc.out];refine⟨ad,e4,ct,ao,(ar.out.less (E':=λb=>b=T) (λb h=>h▸a6.out)).sub (λp hp=> ?_),de.out,da.out,by simp[ac.out.1.2]⟩;simp only[List.mem_singleton]at hp;subst hp
    exact .head _)
   clear aq cc ar de cv ba bz HC dc;have bn:=dx.out;(go_wp2_with fail);go_roundw;(case rel=>exact⟨k+1,by omega,by go_num,by rw[gb.out];exact fe.out⟩);case measure=>simp[intOf];omega
  ·(obtain rfl:k=ls.length:=by omega);rw[e6.out]at aw;generalize zBc ds ls=s at*;obtain⟨vo,vq,TA,P,al,cq,a1⟩:=aw.out;have ak:=hid al;have b7:=hid cq;have b2:=hid a1;have gw:=al.rl;have cg:=(al.ex T rfl).2.2.1;have gx:=(al.ex T rfl).2.1;clear al cq a1 aw;(go_upto_region 17 with fail);have ai:=hid (ak.out.alloc (.cells #[.string ⟨#[]⟩,.bool false] 85));have d5:=hid (Blk.new wr 85 #[.string ⟨#[]⟩,.bool false]);have dd:=hid (b7.out.alloc (.cells #[.string ⟨#[]⟩,.bool false] 85));clear ak b7;generalize eo:wr.alloc (.cells #[.string ⟨#[]⟩,.bool false] 85)=w5 at*;generalize eh:wr.heap.size=Q at*;clear eo eh wr;obtain⟨E6,ag⟩:∃E:zE,E=(λb=>b=T\/b=Q):=⟨_,rfl⟩;rw[<-ag]at ai;have a6:=hid (show E6 T by rw[ag];simp);have ap:=hid (show E6 Q by rw[ag];simp);clear ag;go_cut[] from 93 to 103 (λwx=>∃ad,RgY w wx R M E6 (.slice D ds.length B) ad vq s.err (s.outs++[zAi]) s.wh s.parts [(.slice TA s.rest.length P,s.rest)]/\zA E6 w5 wx)
   case first=>
    have fu:=b2.out.1;have bn:=dx.out
    have HC:=hid (λ(W:World)(hW:zA (λb=>b=R\/b=Q) w5 W)=>(show W.cell? ⟨R,2,none⟩=some vo/\R<W.heap.size/\W.cell? ⟨Q,0,none⟩=some (.string ⟨#[]⟩)/\W.cell? ⟨Q,1,none⟩=some (.bool false)/\Q<W.heap.size from by
     have U:=d5.out.keep hW (.inr rfl);have h3:=ai.out.box.keep hW (.inl rfl)
     exact⟨h3.at2,h3.lt,U.at0,U.at1,U.lt⟩))
    refine zL 10 (λW=>zA (λb=>b=R\/b=Q) w5 W) (by kernel_rfl) ?_;have aa:zA (λb=>b=R\/b=Q) w5 w5.drew:=(zA.refl _ _).drew;have z:(λW=>zA (λb=>b=R\/b=Q) w5 W) w5.drew:=aa;have I:=hid ai.out.drew;have ah:=(zA.refl E6 w5).drew;generalize w5.drew=x0 at*
    (refine tkQ 0 z ?_;simp only[nr])
    try simp only[nq]
    (refine tkQ 1 z ?_;simp only[nr])
    try simp only[nq]
    (refine tkQ 2 z ?_;simp only[nr])
    try simp only[nq]
    (refine tkQ 3 z ?_;simp only[nr])
    try simp only[nq]
    (refine tkS 4 ?_ z ?_ ?_;rotate_left;intro w m;obtain⟨r2,rl,o0,o1,ol⟩:=HC.out _ m;clear m;go_simp;(try with_reducible rfl);simp only[nr])
    try simp only[nq]
    (refine tkS 5 ?_ z ?_ ?_;rotate_left;intro w m;obtain⟨r2,rl,o0,o1,ol⟩:=HC.out _ m;clear m;go_simp;(try with_reducible rfl);simp only[nr])
    (try simp only[nq]);clear z;have aj:=aa.alloc (.cells #[.string ⟨#[]⟩,.bool false] 85);refine wS1 6 (λK F=> ?_);(go_wp2_with fail);refine F _ _ (Or.inr aj) ?_;clear F K;(try simp only[nq]);have dn:=I.out.be.size;refine wS1 7 (λK F=> ?_);refine zAz (.tmp 97) (.tmp 99) _ rfl underlying74 Tryz.eOut rfl (I.out.outs.alloc _) rfl (news:=[.string ⟨#[]⟩,.bool false]) rfl (zCn (Blk.new _ _ _)) (by simp[Value.oneCell']) (by unfold maxLen;omega) (by omega) (by simp;omega) ?_;intro v6 x6 O ab ae;obtain⟨VA,a2,rfl,-⟩:=Row.of_own O (by decide);have HP:=hid (I.out.pushO (o:=(⟨#[]⟩,false)) O ab ae)
    have ay:zA (λb=>b=R\/b=Q) w5 x6:=aj.grown ab (λk e _ hz=>by
     have U:=I.out.s1 k e;rcases hz with hz|hz
     ·exact U.1 hz
     ·exact U.2.2 (hz▸ap.out))
    have cf:=((ah.alloc (.cells #[.string ⟨#[]⟩,.bool false] 85)).grown ab (λk e _ hz=>(I.out.s1 k e).2.2 hz)).setCell (p:=⟨R,2,none⟩) (λ_ h=>(I.out.ex R h).2.2.1 rfl) (.slice VA (s.outs.length+1) a2);refine F _ _ (Or.inr ay) ?_;clear F K O ab ae
    (try simp only[nr])
    have z:(λW=>zA (λb=>b=R\/b=Q) w5 W) x6:=ay
    (refine tkQ 8 z ?_;simp only[nr])
    (try simp only[nr])
    (refine tkQ 9 z ?_;simp only[nr])
    (try simp only[nr])
    clear z;obtain⟨d0,fj,d1,fk,d2,fl,d3,fo,d4,fp,dl⟩:=HP.out.1.c5;refine wS1 10 (λK F=> ?_);(go_wp2_with fail);refine F _ _ (Or.inl rfl) ?_;clear F K;(try simp only[nq]);refine wSd ?_ _;(go_wp2_with fail);go_meet;exact⟨_,HP.out.2,cf⟩
   obtain⟨ad,y,C⟩:=hcut;(rename World=>w6);have av:=hid y;have fd:=hid (d5.out.keep C ap.out);have bh:=hid (dd.out.keep C a6.out);clear y C ai d5 dd;(go_upto_region 18 with fail);go_cut[] from 103 to 109 (λwx=>RgY w wx R M E6 (.slice D ds.length B) ad vq s.err (s.outs++[zAi]) (zC3 s.wh zAi s.rest) s.parts [(.slice TA s.rest.length P,s.rest)])
   case first=>
    have HC:=hid (λ(W:World)(hW:zA (λ_=>True) w6 W)=>(show W.cell? ⟨R,3,none⟩=some (.map (some M))/\R<W.heap.size/\W.cell? ⟨Q,0,none⟩=some (.string ⟨#[]⟩)/\W.cell? ⟨Q,1,none⟩=some (.bool false)/\Q<W.heap.size/\W.cell? ⟨T,0,none⟩=some (.slice TA s.rest.length P)/\T<W.heap.size from by
     have U:=fd.out.keep hW trivial;have h2:=av.out.box.keep hW trivial;have h3:=bh.out.keep hW trivial
     exact⟨h2.at3,h2.lt,U.at0,U.at1,U.lt,h3.at0,h3.lt⟩))
    refine zL 6 (λW=>zA (λ_=>True) w6 W) (by kernel_rfl) ?_;have z:(λW:World=>zA (λ_=>True) w6 W) w6.drew:=(zA.refl _ _).drew;have I:=hid av.out.drew;generalize w6.drew=x0 at*
    (refine tkQ 0 z ?_;simp only[nr])
    try simp only[nq]
    (refine tkQ 1 z ?_;simp only[nr])
    try simp only[nq]
    (refine tkQ 2 z ?_;simp only[nr])
    try simp only[nq]
    (refine tkS 3 ?_ z ?_ ?_;rotate_left;intro w m;obtain⟨r3,rl,o0,o1,ol,t0,tl⟩:=HC.out _ m;clear m;go_simp;(try with_reducible rfl);simp only[nr])
    try simp only[nq]
    (refine tkS 4 ?_ z ?_ ?_;rotate_left;intro w m;obtain⟨r3,rl,o0,o1,ol,t0,tl⟩:=HC.out _ m;clear m;go_simp;(try with_reducible rfl);simp only[nr])
    try simp only[nq]
    (refine tkS 5 ?_ z ?_ ?_;rotate_left;intro w m;obtain⟨r3,rl,o0,o1,ol,t0,tl⟩:=HC.out _ m;clear m;go_simp;(try with_reducible rfl);simp only[nr])
    (try simp only[nq]);clear z;obtain⟨g8,cn,a0⟩:=I.out.map;refine wS1 6 (λK F=> ?_);refine zKB (.tmp 106) (.tmp 107) (.tmp 108) rfl zGK underlying75 rfl cn zAi rfl ?_;intro x6 co bm cp cj cm;have bl:=hid (I.out.setM a0 (o:=zAi) (v:= .slice TA s.rest.length P) (g:=s.rest) (by simp) co bm);refine F _ _ (Or.inl rfl) ?_;clear F K cn a0 co bm cp cj cm
    (try simp only[nr])
    refine wSd ?_ _;(go_wp2_with fail);go_meet;exact bl.out
   (rename World=>w7);have bl:=hid hcut;clear hcut;(go_wp2_with fail);go_ret;exact⟨R,M,ad,vq,rfl,by rw[f8.out];exact(bl.out.less (E':=λ_=>False) (λb h=>h.elim)).sub (λp hp=>by simp at hp)⟩
end Go.Proofs.YthpocbeoanipbaaGreatDoor
