/- TariffGap: for every tariff and case, whatever they are: the law returns true, and the arguments read behind the call as before it. Conditions: the row's own (the listed variables of Go's library read as its text lays them: the card ties them). -/
import Derived.Test.YthpocbeoanipbaaGreatDoorM39
import Derived.Test.YthpocbeoanipbaaGreatDoorCards
import Derived.Test.YthpocbeoanipbaaGreatDoorTie
import Derived.SevenTiedAt
set_option linter.all false
namespace Go.Proofs.YthpocbeoanipbaaGreatDoor
open Go.RowKit Go.Proofs.Tryz
set_option maxHeartbeats 8000000
set_option maxRecDepth 100000
theorem zQm(Z Zc:zE)(vd vl vc:Value)(t:zY)(c:List Int)(w:World)(h:zAA Z w vd vl t)(hc:zK Zc w vc c)(hz:∀b,Z b->b<w.heap.size)(ai:∀b,Zc b->b<w.heap.size)(P:zAD w.heap.size w):
  Calls prog 4 #[.agg #[vd,vl],vc] w λe w'=>e= .returned (.bool true)/\Below w.heap.size w w':=by
 have K:=hid (λW(M:Below w.heap.size w W)=>(show zAD W.heap.size W from(P.on M).mono M.size));have j:=hid (λW(M:Below w.heap.size w W)=>(show zAA (λb=>b<W.heap.size) W vd vl t from(h.keep (.of_below M)).mono λb a=>Nat.lt_of_lt_of_le (hz b a) M.size));have H:=hid (λW(M:Below w.heap.size w W)=>(show zK (λb=>b<W.heap.size) W vc c from(hc.keep (.of_below M)).mono λb a=>Nat.lt_of_lt_of_le (ai b a) M.size));obtain⟨D,L,aq⟩:∃k f,vd= .slice k t.dom.length f:=by obtain⟨⟨k,f,e,_⟩,_⟩:=h.d;exact⟨k,f,e⟩
 obtain⟨LA,Q,ar⟩:∃k f,vl= .slice k t.lines.length f:=by obtain⟨⟨k,f,e,_⟩⟩:=h.l;exact⟨k,f,e⟩
 obtain⟨CA,au,ap⟩:∃k f,vc= .slice k c.length f:=by obtain⟨⟨k,f,e,_⟩,_⟩:=hc;exact⟨k,f,e⟩
 subst aq ar ap;have G:=hid (λ(h:z7 t=true)(hf:fits t.dom c=true)=>zVG (zAj.1 h) hf);clear h hc hz ai P;have X:=hid (Blk.new w 27 #[.slice D t.dom.length L,.slice LA t.lines.length Q]);have R:=hid (zF w (.cells #[.slice D t.dom.length L,.slice LA t.lines.length Q] 27));go_enter func4,ntmps4
 go_wp2_with fail
 refine(zEU _ (K.out _ R.out)).mono ?_;rintro e w1 ⟨rfl,a⟩;have I:=hid (X.out.below a X.out.lt);have C:=hid (zD R.out a);clear a X R;obtain⟨z,g,A,i,B⟩:=I.out.c2;go_wp2_with fail
 refine(zEp _ _ _ _ _ t c _ (j.out _ C.out) (H.out _ C.out) (λ_ h=>h)).mono ?_;rintro e w2 ⟨b,rfl,a,N⟩;have J:=hid (I.out.below a I.out.lt);have E:=hid (zD C.out a);have ab:=hid N;clear a N I C z A g i B;cases b
 ·go_wp2_with fail
  go_ret;exact⟨rfl,E.out⟩
 ·obtain⟨aw,O,av⟩:=ab.out (by first|exact rfl|trivial);have HS:=hid O;clear O ab;obtain⟨z,g,A,i,B⟩:=J.out.c2;go_wp2_with fail
  refine(zBX _ _ _ t _ (j.out _ E.out) (λ_ h=>h) (λx hx=>Nat.le_trans (HS.out x hx) (by decide))).mono ?_;rintro e w3 ⟨rfl,a⟩;have s:=hid (J.out.below a J.out.lt);have m:=hid (zD E.out a);clear a J E z A g i B;obtain⟨vt,ah⟩:∃vt,vt=z7 t:=⟨_,rfl⟩;rw[<-ah]at G⊢;clear ah;cases vt
  ·(go_wp2_with fail);go_ret;exact⟨rfl,m.out⟩
  ·have hq:=s.out.lt;obtain⟨z,g,A,i,B⟩:=s.out.c2;(go_wp2_with fail);refine(zCX _ _ _ t.dom c _ (j.out _ m.out).d (H.out _ m.out)).mono ?_;rintro e w4 ⟨rfl,a⟩;have u:=hid (s.out.below a s.out.lt);have n:=hid (zD m.out a);clear a s m z A g i B hq;obtain⟨ft,ae⟩:∃ft,ft=fits t.dom c:=⟨_,rfl⟩;rw[<-ae]at G⊢;clear ae;cases ft
   ·(go_wp2_with fail);go_ret;exact⟨rfl,n.out⟩
   ·have HG:=hid (G.out (by first|exact rfl|trivial) (by first|exact rfl|trivial));clear G;have hq:=u.out.lt;obtain⟨z,g,A,i,B⟩:=u.out.c2;(go_wp2_with fail);refine(zJA _ _ _ t _ (j.out _ n.out) (λ_ h=>h) (λx hx=>Nat.le_trans (HS.out x hx) (by decide)) (K.out _ n.out)).mono ?_;rintro e w5 ⟨v,rfl,hi,a⟩;have y:=hid (u.out.below a u.out.lt);have F:=hid (zD n.out a);have V:=hid (hi.live.mono (Z':=λb=>b<w5.heap.size) λb h=>h.2);clear a hi u n z A g i B hq;generalize zBF t=RG at*;obtain⟨rg,re⟩:=RG;dsimp only at HG V;have hq:=y.out.lt;obtain⟨z,g,A,i,B⟩:=y.out.c2;(go_wp2_with fail);refine(zDZ _ _ _ _ _ t c _ (j.out _ F.out) (H.out _ F.out) (λ_ h=>h) (λ_ h=>h) (λx hx=>Nat.le_trans (HS.out x hx) (by decide))).mono ?_;rintro e w6 ⟨rfl,a⟩;have Y:=hid (y.out.below a y.out.lt);have o:=hid (zD F.out a);have q:=hid ((V.out.keep (.of_below a)).mono (Z':=λb=>b<w6.heap.size) λb h=>Nat.lt_of_lt_of_le h a.size);clear a y F V z A g i B hq;by_cases he:re=0
    ·subst he
     cases rg with
     |none=>
      have ad:=HG.out.2.1 (by first|exact rfl|trivial) (by first|exact rfl|trivial);obtain⟨VA,aj,rfl,-⟩:=q.out.is;generalize zAR t c=cl at*;obtain⟨ci,ce⟩:=cl;dsimp only at ad;subst ad;(go_wp2_with fail);go_ret;exact⟨rfl,o.out⟩
     |some p=>
      obtain⟨hp,ag⟩:=HG.out.2.2 (by first|exact rfl|trivial) p (by first|exact rfl|trivial);obtain⟨VA,aj,rfl,-⟩:=q.out.is;have HP:=hid hp;have ac:=hid ag;clear hp ag HG;have U:=hid (zDZ _ _ _ _ _ t p _ (j.out _ o.out) q.out (λ_ h=>h) (λ_ h=>h) (λx hx=>Nat.le_trans (HS.out x hx) (by decide)));rw[HP.out]at U;have hq:=Y.out.lt;obtain⟨z,g,A,i,B⟩:=Y.out.c2;(go_wp2_with fail);refine U.out.mono ?_;rintro e w7 ⟨rfl,a⟩;have T:=hid (zD o.out a);have al:=hid ((q.out.keep (.of_below a)).mono (Z':=λb=>b<w7.heap.size) λb h=>Nat.lt_of_lt_of_le h a.size);clear a Y o q U z A g i B hq;generalize zAR t c=cl at*;obtain⟨ci,ce⟩:=cl;dsimp only at ac;by_cases aa:ce=0
      ·subst aa;(go_wp2_with fail);go_ret;exact⟨rfl,T.out⟩
      ·have af:zC9 c p=false:=by
        cases h:zC9 c p with
        |false=>rfl
        |true=>exact absurd (zJa h) (ac.out.resolve_left aa)
       have ao:=hid af;clear af;(have e1:((ce:Int)==(0:Int))=false:=by simp[aa]);(go_wp2_with fail);refine(zLx _ _ _ _ c p _ (H.out _ T.out) al.out).mono ?_;rintro e w8 ⟨rfl,a⟩;have ak:=hid (zD T.out a);rw[ao.out];clear a;(go_wp2_with fail);go_ret;exact⟨rfl,ak.out⟩
    ·have h1:=HG.out.1 he;injection h1 with h1 h2;subst h1 h2;(go_wp2_with fail);go_ret;exact⟨rfl,o.out⟩
section
open Go.ChangeShapes Go.WideShapes Go.ChangeAt
theorem zLI(os:Os)(c:os.Started)(H:Type)(enc:TypeId × Value->H):
  ReturnsInHanded {} Tryz.checked os 4 .any (λw args=>(Rows.tariffGapSpec.pre enc prog Tryz.f4 [] false w args/\laidMetH prog zCV w)/\sizedMet enc prog Tryz.f4 (OpenSpec.ofChange Rows.tariffGapSpec) false w args)
   (Rows.tariffGapSpec.post enc prog Tryz.f4 false true false false):=by
 refine returnsInHanded_of_change_and (C:=Tryz.checked) (X:=λw _=>laidMetH prog zCV w) (λ_ _ _ K h=>h.of_heap K) own c (by kernel_rfl) func4
  (ChangeSpec.witness_shaped (enc:=enc) (C:=Tryz.checked) (os:=os) (X:=λw _=>laidMetH prog zCV w) false (World.doorLaid prog 62 os) #[.agg #[.slice none 0 0,.slice none 0 0],.slice none 0 0] 8 rfl (World.shaped_of_RefB (by kernel_rfl) (by kernel_rfl)) (by kernel_rfl) (by kernel_rfl) (by kernel_rfl) (zFd os _)) ?_
 intro W i args x E n b y _ d I _;have a:∀(j:Nat) t v,Tryz.f4.params[j]? =some t->args[j]? =some v->Value.okWide prog W .any i t v:=b;have m:=y;obtain⟨p,q,k,J,rfl,-,-⟩:=y;have o:DataW.TrodAll enc prog W 0 (λ_=>true) true Tryz.f4.params.toList args.toList x p:=k;have g:(DataW.weightsEach prog (Tryz.f4.params.toList++Rows.tariffGapSpec.plain.varTypes prog) (x++E)).all (· <=reachBytes)=true:=d;clear k d b;obtain⟨rfl,rfl⟩:=trodVars_none J;simp only[List.append_nil]at m;have s:=o;rw[params4]at o a g;obtain⟨O,Q,T,B,V,Z,f,rfl,rfl,F,L⟩:=trodAll_cons o;obtain⟨P,R,U,D,Y,q1,rfl,rfl,rfl,G,M⟩:=trodAll_cons L;obtain⟨rfl,rfl,rfl⟩:=trodAll_nil M;obtain rfl:args=#[O,P]:=by simpa using congrArg List.toArray f
 obtain⟨x0,y0,N,rfl,z⟩:=zFn (a 0 27 _ rfl rfl) F (zDe g (j:=0) rfl rfl);obtain⟨u,A⟩:=zI4 (a 1 29 _ rfl rfl) G (zDe g (j:=1) rfl rfl);refine(zQm (zCt W) (zCt W) _ _ _ N u W z A (λ_ h=>h) (λ_ h=>h) (zDi I)).mono λe W' ⟨he,hb⟩=> ?_
 subst he;exact⟨_,rfl,zFe m s rfl rfl (by kernel_rfl) (by kernel_rfl) hb⟩
theorem zL6:(Rows.tariffGapRow.inPlace==prog.inPlace 4)=true:=by kernel_rfl
theorem zLJ:(Rows.tariffGapRow.unfollowed==prog.unfollowed 4)=true:=by kernel_rfl
theorem zLK:(Rows.tariffGapRow.recurses==prog.recurses 4)=true:=by kernel_rfl
theorem zL7:(Rows.tariffGapRow.named==prog.varsNamed 4)=true:=by kernel_rfl
theorem zL8:joinedFacts prog 4 Tryz.f4 Rows.tariffGapSpec Rows.tariffGapRow=true:=
 zDS (by kernel_rfl) laidOut zGm (by kernel_rfl) (by kernel_rfl) rfl zGn rfl zGo zL6 zLJ zLK zL7 (by kernel_rfl) (by kernel_rfl) (by kernel_rfl) (by kernel_rfl) (by kernel_rfl) rfl (by kernel_rfl) (by kernel_rfl) (by kernel_rfl)
  zIL rfl zGp zGq zGr zIM rfl (by kernel_rfl) (by kernel_rfl) (by kernel_rfl)
theorem zL9:Rows.TariffGapSaid:=
 OpenClaim.holds_of_wide 4 Tryz.f4 rfl rfl rfl rfl rfl rfl rfl ⟨rfl,rfl,rfl,rfl,rfl⟩ rfl rfl rfl rfl rfl (by kernel_rfl) func4 zL8
  (of_decide_eq_true (by kernel_rfl)) (by unfold Func.isWrapper;rw[if_neg (of_decide_eq_false (by kernel_rfl))];exact⟨rfl,rfl⟩)
  (λc a H b _=>zLI c a H b)
theorem tariffgap_card:Rows.TariffGapCardSaid:=
 Claim7.holds_tied_plain_at .later [] [.data,.data,.data,.sentinel,.sentinel] true (true,"9d5f64aa18c290daaccff0ab2ce20b26d467f80ee7c9efc2112ab5ceb4813111") true
  zL9 (λ_ h=>by cases h) (by kernel_rfl) (λ_ h=>by cases h) tariffGap_row_tie rfl ⟨rfl,rfl⟩ (by kernel_rfl) rfl
  (λf fn hf hfn=>by
   obtain rfl:f=4:=Option.some.inj ((show prog.funcNamed "customhouse/customhouselaw27.TariffGap" =some 4 by kernel_rfl).symm.trans hf) |>.symm;obtain rfl:fn=Tryz.f4:=(Option.some.inj (func4.symm.trans hfn)).symm
   exact⟨by kernel_rfl,λj t ht=>by
    rw[params4]at ht;(have hm:t∈[27,29]:=by simpa using Array.mem_of_getElem? ht);have hall:([27,29].all λu=> !prog.wantsStandIn u)=true:=by kernel_rfl
    exact(show prog.wantsStandIn t=false by simpa using List.all_eq_true.1 hall t hm)⟩)
  (by kernel_rfl)
end
end Go.Proofs.YthpocbeoanipbaaGreatDoor
