/- TariffFirst: for every tariff and case, whatever they are: the law returns true, and the arguments read behind the call as before it. Conditions: the row's own (the listed variables of Go's library read as its text lays them: the card ties them). -/
import Derived.Test.YthpocbeoanipbaaGreatDoorM39
import Derived.Test.YthpocbeoanipbaaGreatDoorM40
import Derived.Test.YthpocbeoanipbaaGreatDoorM41
import Derived.Test.YthpocbeoanipbaaGreatDoorCards
import Derived.Test.YthpocbeoanipbaaGreatDoorTie
import Derived.SevenTiedAt
set_option linter.all false
namespace Go.Proofs.YthpocbeoanipbaaGreatDoor
open Go.RowKit Go.Proofs.Tryz
set_option maxHeartbeats 8000000
set_option maxRecDepth 100000
theorem zVY{P:Program}{ops:Array Oper}{Q:Exit->Act->World->Prop}{e:Region.Mode}{S:World->Prop}{s:Nat}(i:Nat){o:Oper}{fuel:Nat}{b:Array Bool}{a:Act}{w:World}
  (h:∀K:Act->World->Prop,(∀c w',((b.setIfInBounds i true).getD s true=true\/S w')->wpAnyS P e ops Q S s fuel (b.setIfInBounds i true) c w'->K c w')->Oper.wp P o a w K Q)
  (g:Region.ready e ops b=[i]:=by kernel_rfl)(q:ops[i]? =some o:=by exact rfl)(n:Region.wanted o (yielded ops a.tmps)=true:=by kernel_rfl):wpAnyS P e ops Q S s (fuel+1) b a w:=by
 refine⟨λf=>(by rw[g]at f;cases f),λj d=> ?_⟩;rw[g]at d;simp at d;subst d;unfold wpOp;rw[q];simp only;rw[if_pos n];exact Or.inl (h _ λc w' k m=>⟨k,m⟩)
theorem zQl{Z Zc:zE}{w:World}{vd y:Value}{z:Option Addr}{n g:Nat}{t:zY}{c:List Int}(h:zAA Z w vd (.slice z n g) t)(G:zK Zc w y c)(J:∀b,Z b->b<w.heap.size)(v:∀b,Zc b->b<w.heap.size)(I:∀x∈t.lines,zG x.when_<=40){k:Nat}(F:k<t.lines.length):
  ∃b off A B C D i E a,z=some ⟨b,off,none⟩/\b<w.heap.size/\(∀(j:Nat)(u:Value),[Value.int .i64 A,.string B,.int .i64 C,.int .i64 D,.slice i E a][j]? =some u->w.cell? ⟨b,off+k*7+j,none⟩=some u)/\
   ∀W,Below w.heap.size w W->Calls prog 14 #[.agg #[.int .i64 A,.string B,.int .i64 C,.int .i64 D,.slice i E a],.agg #[vd],y] W λe w'=>e= .returned (.bool (zCZ t.dom c t.lines[k].when_))/\Below W.heap.size W w':=by
 obtain⟨b,off,K,rfl,-,o,q,H⟩:=h.l.at_ F;obtain⟨i,a,rfl,s⟩:=H.form;refine⟨b,off,t.lines[k].when_.op,t.lines[k].when_.name,t.lines[k].when_.cmp,t.lines[k].when_.num,i,t.lines[k].when_.kids.length,a,rfl,o,λj u f=>q j u ?_,λW m=> ?_⟩
 ·match j,f with
  |0,f=>exact f
  |1,f=>exact f
  |2,f=>exact f
  |3,f=>exact f
  |4,f=>exact f
  |n+5,f=>simp at f
 ·exact zNP (λb=>Z b\/Zc b) vd y t.dom c t.lines[k].when_ _ W ((FmR.keep (zA.of_below m) _ _ s).mono (λ_ h=> .inl h)) ((h.d.keep (zA.of_below m)).mono (λ_ h=> .inl h)) ((G.keep (zA.of_below m)).mono (λ_ h=> .inr h)) (Nat.le_trans (I _ (List.getElem_mem F)) (by decide)) (λb o=>Nat.lt_of_lt_of_le (o.elim (J b) (v b)) m.size)
theorem zOW(Z Zc:zE)(vd vl vc:Value)(t:zY)(c:List Int)(w:World)(h:zAA Z w vd vl t)(y:zK Zc w vc c)(hz:∀b,Z b->b<w.heap.size)(ak:∀b,Zc b->b<w.heap.size)(ac:zAD w.heap.size w):
  Calls prog 3 #[.agg #[vd,vl],vc] w λe w'=>e= .returned (.bool true)/\Below w.heap.size w w':=by
 have ao:=hid (λW(F:Below w.heap.size w W)=>(show zAD W.heap.size W from(ac.on F).mono F.size));have aa:=hid (λW(F:Below w.heap.size w W)=>(show zAA (λb=>b<W.heap.size) W vd vl t from(h.keep (.of_below F)).mono λb g=>Nat.lt_of_lt_of_le (hz b g) F.size));have af:=hid (λW(F:Below w.heap.size w W)=>(show zK (λb=>b<W.heap.size) W vc c from(y.keep (.of_below F)).mono λb g=>Nat.lt_of_lt_of_le (ak b g) F.size));obtain⟨D,q,az⟩:∃I f,vd= .slice I t.dom.length f:=by obtain⟨⟨I,f,e,_⟩,_⟩:=h.d;exact⟨I,f,e⟩
 obtain⟨LA,s,a0⟩:∃I f,vl= .slice I t.lines.length f:=by obtain⟨⟨I,f,e,_⟩⟩:=h.l;exact⟨I,f,e⟩
 obtain⟨CA,a1,ay⟩:∃I f,vc= .slice I c.length f:=by obtain⟨⟨I,f,e,_⟩,_⟩:=y;exact⟨I,f,e⟩
 subst az a0 ay;have U:=hid (λhs k hk=>zQl h y hz ak hs (k:=k) hk);clear h y hz ak ac;have ag:=hid (Blk.new w 27 #[.slice D t.dom.length q,.slice LA t.lines.length s]);have ad:=hid (zF w (.cells #[.slice D t.dom.length q,.slice LA t.lines.length s] 27));go_enter func3,ntmps3
 go_wp2_with fail
 refine(zEU _ (ao.out _ ad.out)).mono ?_;rintro e w1 ⟨rfl,g⟩;have V:=hid (ag.out.below g ag.out.lt);have R:=hid (zD ad.out g);clear g ag ad;obtain⟨o0,C,o1,E,ol⟩:=V.out.c2;go_wp2_with fail
 refine(zEp _ _ _ _ _ t c _ (aa.out _ R.out) (af.out _ R.out) (λ_ h=>h)).mono ?_;rintro e w2 ⟨b,rfl,g,ab⟩;have X:=hid (V.out.below g V.out.lt);have J:=hid (zD R.out g);have al:=hid ab;clear g ab V R o0 o1 C E ol;cases b
 ·go_wp2_with fail
  go_ret;exact⟨rfl,J.out⟩
 ·obtain⟨a7,P,a2⟩:=al.out (by first|exact rfl|trivial);have HS:=hid P;replace U:=hid (U.out P);clear P al;have T:=hid (zTb (t:=t) (c:=c));have M:=hid (zTc (t:=t) (c:=c));have au:=hid (λi hi h=>zPW (t:=t) (c:=c) (i:=i) hi h);obtain⟨o0,C,o1,E,ol⟩:=X.out.c2;go_wp2_with fail
  refine(zDZ _ _ _ _ _ t c _ (aa.out _ J.out) (af.out _ J.out) (λ_ h=>h) (λ_ h=>h) (λx hx=>Nat.le_trans (HS.out x hx) (by decide))).mono ?_;rintro e w3 ⟨rfl,g⟩;have Y:=hid (X.out.below g X.out.lt);have ae:=hid (zD J.out g);clear g X J o0 o1 C E ol;generalize zAR t c=cl at*;obtain⟨ci,ce⟩:=cl;generalize zAw t c=B at*;obtain⟨o0,C,o1,E,ol⟩:=Y.out.c2;go_wp2_with fail
  refine(zBX _ _ _ t _ (aa.out _ ae.out) (λ_ h=>h) (λx hx=>Nat.le_trans (HS.out x hx) (by decide))).mono ?_;rintro e w4 ⟨rfl,g⟩;have N:=hid (Y.out.below g Y.out.lt);have L:=hid (zD ae.out g);clear g Y ae o0 o1 C E ol;obtain⟨vt,aq⟩:∃vt,vt=z7 t:=⟨_,rfl⟩;rw[<-aq]at T M⊢;clear aq;cases vt
  ·have v:=M.out (by first|exact rfl|simp);injection v with v h2;subst v h2;(go_wp2_with fail);go_ret;exact⟨rfl,L.out⟩
  ·have hq:=N.out.lt;obtain⟨o0,C,o1,E,ol⟩:=N.out.c2;(go_wp2_with fail);refine(zCX _ _ _ t.dom c _ (aa.out _ L.out).d (af.out _ L.out)).mono ?_;rintro e w5 ⟨rfl,g⟩;have H:=hid (N.out.below g N.out.lt);have G:=hid (zD L.out g);clear g N L o0 o1 C E ol hq;obtain⟨ft,ap⟩:∃ft,ft=fits t.dom c:=⟨_,rfl⟩;rw[<-ap]at T M⊢;clear ap;cases ft
   ·have v:=M.out (by first|exact rfl|simp);injection v with v h2;subst v h2;(go_wp2_with fail);go_ret;exact⟨rfl,G.out⟩
   ·have v:=T.out (by first|exact rfl|simp);clear T M;(go_upto_if 41 with fail);go_cut[6] from 40 to 72 (λvk wx=>vk= .int .i64 (B:Int)/\B<=t.lines.length/\Blk wx w.heap.size 27 #[.slice D t.dom.length q,.slice LA t.lines.length s]/\Below w.heap.size w wx)
    case first=>
     rcases v with⟨hi,he,hho⟩|⟨he,hn⟩
     ·injection he with he1 he2;subst he1 he2;obtain⟨b,m,f0,f1,f2,f3,FA,fn,A,ah,ai,aj,hH⟩:=U.out B hi;subst ah;have HH:=hid hH;rw[hho]at HH;(have a3:¬((B:Nat):Int)<0:=by omega);(have a4:¬((t.lines.length:Nat):Int)<=((B:Nat):Int):=by omega);(have aw:((B:Nat):Int)<(t.lines.length:Int):=by omega);clear hH
      have Q:=hid (λ(W:World)(F:zA (λ_=>True) w5 W)=>(show W.cell? ⟨w.heap.size,0,none⟩=some (.slice D t.dom.length q)/\W.cell? ⟨w.heap.size,1,none⟩=some (.slice (some ⟨b,m,none⟩) t.lines.length s)/\w.heap.size<W.heap.size/\W.cell? ⟨b,m+B*7,none⟩=some (.int .i64 f0)/\W.cell? ⟨b,m+B*7+1,none⟩=some (.string f1)/\W.cell? ⟨b,m+B*7+2,none⟩=some (.int .i64 f2)/\W.cell? ⟨b,m+B*7+3,none⟩=some (.int .i64 f3)/\W.cell? ⟨b,m+B*7+4,none⟩=some (.slice FA fn A)/\b<W.heap.size from by
       have v:=H.out.keep F trivial;have h2:=zD G.out F.below;have y:∀(j:Nat)(u:Value),[Value.int .i64 f0,.string f1,.int .i64 f2,.int .i64 f3,.slice FA fn A][j]? =some u->W.cell? ⟨b,m+B*7+j,none⟩=some u:=λj u hu=>(h2.cell (p:=⟨b,_,none⟩) ai).trans (aj j u hu)
       exact⟨v.at0,v.at1,v.lt,y 0 _ rfl,y 1 _ rfl,y 2 _ rfl,y 3 _ rfl,y 4 _ rfl,lt_of_cell (y 0 _ rfl)⟩))
      (go_upto_region 11 with fail);refine zL 19 (λW=>zA (λ_=>True) w5 W) (by kernel_rfl) ?_;have o:zA (λ_=>True) w5 w5.drew:=(zA.refl _ _).drew;have n:(λW:World=>zA (λ_=>True) w5 W) w5.drew:=o;generalize w5.drew=x0 at*
      (refine tkQ 0 n ?_;simp only[nr])
      try simp only[nq]
      (refine tkQ 1 n ?_;simp only[nr])
      try simp only[nq]
      (refine tkQ 2 n ?_;simp only[nr])
      try simp only[nq]
      (refine tkQ 3 n ?_;simp only[nr])
      try simp only[nq]
      (refine tkQ 4 n ?_;simp only[nr])
      try simp only[nq]
      (refine tkC 5 [6,7,8,9,19] ?_ n ?_ ?_;rotate_left;intro w a;obtain⟨t0,t1,tl,c0,c1,c2,c3,c4,cl⟩:=Q.out _ a;clear a;go_simp;(try with_reducible rfl);simp only[nr])
      try simp only[nq]
      (refine tkQ 6 n ?_;simp only[nr])
      try simp only[nq]
      (refine tkQ 7 n ?_;simp only[nr])
      try simp only[nq]
      (refine tkQ 8 n ?_;simp only[nr])
      try simp only[nq]
      (refine tkQ 9 n ?_;simp only[nr])
      try simp only[nq]
      (refine tkQ 10 n ?_;simp only[nr])
      try simp only[nq]
      (refine tkC 11 [13,14,15,19] ?_ n ?_ ?_;rotate_left;intro w a;obtain⟨t0,t1,tl,c0,c1,c2,c3,c4,cl⟩:=Q.out _ a;clear a;go_simp;(try with_reducible rfl);simp only[nr])
      try simp only[nq]
      (refine tkQ 12 n ?_;simp only[nr])
      try simp only[nq]
      (refine tkQ 13 n ?_;simp only[nr])
      try simp only[nq]
      (refine tkQ 14 n ?_;simp only[nr])
      try simp only[nq]
      (refine tkS 15 ?_ n ?_ ?_;rotate_left;intro w a;obtain⟨t0,t1,tl,c0,c1,c2,c3,c4,cl⟩:=Q.out _ a;clear a;go_simp;(try with_reducible rfl);simp only[nr])
      try simp only[nq]
      (refine tkQ 16 n ?_;simp only[nr])
      try simp only[nq]
      (refine tkS 17 ?_ n ?_ ?_;rotate_left;intro w a;obtain⟨t0,t1,tl,c0,c1,c2,c3,c4,cl⟩:=Q.out _ a;clear a;go_simp;(try with_reducible rfl);simp only[nr])
      try simp only[nq]
      (refine tkQ 18 n ?_;simp only[nr])
      (try simp only[nq]);clear n Q;refine zVY 19 (λK O=> ?_);(go_wp2_with fail);refine(HH.out x0 (zD G.out o.below)).mono ?_;rintro e x1 ⟨rfl,g⟩;refine O _ _ (Or.inl rfl) ?_;clear O K
      (try simp only[nr])
      refine zVY 20 (λK O=> ?_);(go_wp2_with fail);refine O _ _ (Or.inl rfl) ?_;clear O K
      (try simp only[nr])
      refine wS1 21 (λK O=> ?_);(go_wp2_with fail);refine O _ _ (Or.inl rfl) ?_;clear O K;(try simp only[nq]);refine wSd ?_ _;(go_wp2_with fail);go_meet;exact⟨rfl,by omega,(H.out.keep o trivial).below g (H.out.keep o trivial).lt,zD (zD G.out o.below) g⟩
     ·injection he with he1 he2;subst he1 he2;obtain⟨o0,C,o1,E,ol⟩:=H.out.c2;(go_wp2_with fail);go_meet;exact⟨by simp only[hn],by omega,H.out,G.out⟩
    case rest=>
     obtain⟨rfl,a6,ht,g⟩:=hcut;have av:=hid ht;have ar:=hid g;(rename World=>w6);clear ht g H G v;(go_wp2_with fail);go_loopw[8] (λiv wr=>∃i:Nat,i<=B/\iv= .int .i64 i/\Hid (Blk wr w.heap.size 27 #[.slice D t.dom.length q,.slice LA t.lines.length s]/\Below w.heap.size w wr)) (λiv _=>B-(intOf iv).toNat);case atStart=>exact⟨0,Nat.zero_le _,rfl,hid ⟨av.out,ar.out⟩⟩
     case round=>
      obtain⟨i,hi,rfl,z⟩:=hrel;by_cases ax:i<B
      ·obtain⟨b,m,f0,f1,f2,f3,FA,fn,A,ah,ai,aj,hH⟩:=U.out i (by omega);subst ah;have HH:=hid hH;rw[au.out i (by omega) ax]at HH;(have aw:((i:Nat):Int)<(t.lines.length:Int):=by omega);(have a5:((i:Nat):Int)<(B:Int):=by omega);clear hH
       have Q:=hid (λ(W:World)(F:zA (λ_=>True) wr W)=>(show W.cell? ⟨w.heap.size,0,none⟩=some (.slice D t.dom.length q)/\W.cell? ⟨w.heap.size,1,none⟩=some (.slice (some ⟨b,m,none⟩) t.lines.length s)/\w.heap.size<W.heap.size/\W.cell? ⟨b,m+i*7,none⟩=some (.int .i64 f0)/\W.cell? ⟨b,m+i*7+1,none⟩=some (.string f1)/\W.cell? ⟨b,m+i*7+2,none⟩=some (.int .i64 f2)/\W.cell? ⟨b,m+i*7+3,none⟩=some (.int .i64 f3)/\W.cell? ⟨b,m+i*7+4,none⟩=some (.slice FA fn A)/\b<W.heap.size from by
        have v:=z.out.1.keep F trivial;have h2:=zD z.out.2 F.below;have y:∀(j:Nat)(u:Value),[Value.int .i64 f0,.string f1,.int .i64 f2,.int .i64 f3,.slice FA fn A][j]? =some u->W.cell? ⟨b,m+i*7+j,none⟩=some u:=λj u hu=>(h2.cell (p:=⟨b,_,none⟩) ai).trans (aj j u hu)
        exact⟨v.at0,v.at1,v.lt,y 0 _ rfl,y 1 _ rfl,y 2 _ rfl,y 3 _ rfl,y 4 _ rfl,lt_of_cell (y 0 _ rfl)⟩))
       (go_upto_region 16 with fail);refine zL 9 (λW=>zA (λ_=>True) wr W) (by kernel_rfl) ?_;have o:zA (λ_=>True) wr wr.drew:=(zA.refl _ _).drew;have n:(λW:World=>zA (λ_=>True) wr W) wr.drew:=o;generalize wr.drew=x0 at*
       (refine tkQ 0 n ?_;simp only[nr])
       try simp only[nq]
       (refine tkC 1 [3,4,5,9] ?_ n ?_ ?_;rotate_left;intro w a;obtain⟨t0,t1,tl,c0,c1,c2,c3,c4,cl⟩:=Q.out _ a;clear a;go_simp;(try with_reducible rfl);simp only[nr])
       try simp only[nq]
       (refine tkQ 2 n ?_;simp only[nr])
       try simp only[nq]
       (refine tkQ 3 n ?_;simp only[nr])
       try simp only[nq]
       (refine tkQ 4 n ?_;simp only[nr])
       try simp only[nq]
       (refine tkS 5 ?_ n ?_ ?_;rotate_left;intro w a;obtain⟨t0,t1,tl,c0,c1,c2,c3,c4,cl⟩:=Q.out _ a;clear a;go_simp;(try with_reducible rfl);simp only[nr])
       try simp only[nq]
       (refine tkQ 6 n ?_;simp only[nr])
       try simp only[nq]
       (refine tkS 7 ?_ n ?_ ?_;rotate_left;intro w a;obtain⟨t0,t1,tl,c0,c1,c2,c3,c4,cl⟩:=Q.out _ a;clear a;go_simp;(try with_reducible rfl);simp only[nr])
       try simp only[nq]
       (refine tkQ 8 n ?_;simp only[nr])
       (try simp only[nq]);clear n Q;refine wS1 9 (λK O=> ?_);(go_wp2_with fail);refine(HH.out x0 (zD z.out.2 o.below)).mono ?_;rintro e x1 ⟨rfl,g⟩;refine O _ _ (Or.inl rfl) ?_;clear O K
       (try simp only[nr])
       refine wSd ?_ _;have HN:=hid (show Blk x1 w.heap.size 27 #[.slice D t.dom.length q,.slice (some ⟨b,m,none⟩) t.lines.length s]/\Below w.heap.size w x1 from⟨(z.out.1.keep o trivial).below g (z.out.1.keep o trivial).lt,zD (zD z.out.2 o.below) g⟩);clear o g z;(go_wp2_with fail);go_roundw;(case rel=>exact⟨i+1,by omega,by go_num,HN⟩);case measure=>simp[intOf];omega
      ·(obtain rfl:i=B:=by omega);(go_wp2_with fail);go_ret;exact⟨rfl,z.out.2⟩
section
open Go.ChangeShapes Go.WideShapes Go.ChangeAt
theorem zJX(os:Os)(c:os.Started)(H:Type)(enc:TypeId × Value->H):
  ReturnsInHanded {} Tryz.checked os 3 .any (λw args=>(Rows.tariffFirstSpec.pre enc prog Tryz.f3 [] false w args/\laidMetH prog zCV w)/\sizedMet enc prog Tryz.f3 (OpenSpec.ofChange Rows.tariffFirstSpec) false w args)
   (Rows.tariffFirstSpec.post enc prog Tryz.f3 false true false false):=by
 refine returnsInHanded_of_change_and (C:=Tryz.checked) (X:=λw _=>laidMetH prog zCV w) (λ_ _ _ K h=>h.of_heap K) own c (by kernel_rfl) func3
  (ChangeSpec.witness_shaped (enc:=enc) (C:=Tryz.checked) (os:=os) (X:=λw _=>laidMetH prog zCV w) false (World.doorLaid prog 62 os) #[.agg #[.slice none 0 0,.slice none 0 0],.slice none 0 0] 8 rfl (World.shaped_of_RefB (by kernel_rfl) (by kernel_rfl)) (by kernel_rfl) (by kernel_rfl) (by kernel_rfl) (zFd os _)) ?_
 intro W i args x E n b y _ d I _;have a:∀(j:Nat) t v,Tryz.f3.params[j]? =some t->args[j]? =some v->Value.okWide prog W .any i t v:=b;have m:=y;obtain⟨p,q,k,J,rfl,-,-⟩:=y;have o:DataW.TrodAll enc prog W 0 (λ_=>true) true Tryz.f3.params.toList args.toList x p:=k;have g:(DataW.weightsEach prog (Tryz.f3.params.toList++Rows.tariffFirstSpec.plain.varTypes prog) (x++E)).all (· <=reachBytes)=true:=d;clear k d b;obtain⟨rfl,rfl⟩:=trodVars_none J;simp only[List.append_nil]at m;have s:=o;rw[params3]at o a g;obtain⟨O,Q,T,B,V,Z,f,rfl,rfl,F,L⟩:=trodAll_cons o;obtain⟨P,R,U,D,Y,q1,rfl,rfl,rfl,G,M⟩:=trodAll_cons L;obtain⟨rfl,rfl,rfl⟩:=trodAll_nil M;obtain rfl:args=#[O,P]:=by simpa using congrArg List.toArray f
 obtain⟨x0,y0,N,rfl,z⟩:=zFn (a 0 27 _ rfl rfl) F (zDe g (j:=0) rfl rfl);obtain⟨u,A⟩:=zI4 (a 1 29 _ rfl rfl) G (zDe g (j:=1) rfl rfl);refine(zOW (zCt W) (zCt W) _ _ _ N u W z A (λ_ h=>h) (λ_ h=>h) (zDi I)).mono λe W' ⟨he,hb⟩=> ?_
 subst he;exact⟨_,rfl,zFe m s rfl rfl (by kernel_rfl) (by kernel_rfl) hb⟩
theorem zK5:(Rows.tariffFirstRow.inPlace==prog.inPlace 3)=true:=by kernel_rfl
theorem zJY:(Rows.tariffFirstRow.unfollowed==prog.unfollowed 3)=true:=by kernel_rfl
theorem zJZ:(Rows.tariffFirstRow.recurses==prog.recurses 3)=true:=by kernel_rfl
theorem zK6:(Rows.tariffFirstRow.named==prog.varsNamed 3)=true:=by kernel_rfl
theorem zK7:joinedFacts prog 3 Tryz.f3 Rows.tariffFirstSpec Rows.tariffFirstRow=true:=
 zDS (by kernel_rfl) laidOut zGm (by kernel_rfl) (by kernel_rfl) rfl zGn rfl zGo zK5 zJY zJZ zK6 (by kernel_rfl) (by kernel_rfl) (by kernel_rfl) (by kernel_rfl) (by kernel_rfl) rfl (by kernel_rfl) (by kernel_rfl) (by kernel_rfl)
  zIL rfl zGp zGq zGr zIM rfl (by kernel_rfl) (by kernel_rfl) (by kernel_rfl)
theorem zK8:Rows.TariffFirstSaid:=
 OpenClaim.holds_of_wide 3 Tryz.f3 rfl rfl rfl rfl rfl rfl rfl ⟨rfl,rfl,rfl,rfl,rfl⟩ rfl rfl rfl rfl rfl (by kernel_rfl) func3 zK7
  (of_decide_eq_true (by kernel_rfl)) (by unfold Func.isWrapper;rw[if_neg (of_decide_eq_false (by kernel_rfl))];exact⟨rfl,rfl⟩)
  (λc a H b _=>zJX c a H b)
theorem tarifffirst_card:Rows.TariffFirstCardSaid:=
 Claim7.holds_tied_plain_at .later [] [.data,.data,.data,.sentinel,.sentinel] true (true,"9d5f64aa18c290daaccff0ab2ce20b26d467f80ee7c9efc2112ab5ceb4813111") true
  zK8 (λ_ h=>by cases h) (by kernel_rfl) (λ_ h=>by cases h) tariffFirst_row_tie rfl ⟨rfl,rfl⟩ (by kernel_rfl) rfl
  (λf fn hf hfn=>by
   obtain rfl:f=3:=Option.some.inj ((show prog.funcNamed "customhouse/customhouselaw27.TariffFirst" =some 3 by kernel_rfl).symm.trans hf) |>.symm;obtain rfl:fn=Tryz.f3:=(Option.some.inj (func3.symm.trans hfn)).symm
   exact⟨by kernel_rfl,λj t ht=>by
    rw[params3]at ht;(have hm:t∈[27,29]:=by simpa using Array.mem_of_getElem? ht);have hall:([27,29].all λu=> !prog.wantsStandIn u)=true:=by kernel_rfl
    exact(show prog.wantsStandIn t=false by simpa using List.all_eq_true.1 hall t hm)⟩)
  (by kernel_rfl)
end
end Go.Proofs.YthpocbeoanipbaaGreatDoor
