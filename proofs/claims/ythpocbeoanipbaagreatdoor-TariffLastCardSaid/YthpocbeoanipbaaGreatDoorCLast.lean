/- TariffLast: for every tariff, whatever it is: the law returns true, and the arguments read behind the call as before it. Conditions: the row's own (the listed variables of Go's library read as its text lays them: the card ties them). -/
import Derived.Test.YthpocbeoanipbaaGreatDoorM39
import Derived.Test.YthpocbeoanipbaaGreatDoorM40
import Derived.Test.YthpocbeoanipbaaGreatDoorCards
import Derived.Test.YthpocbeoanipbaaGreatDoorTie
import Derived.SevenTiedAt
set_option linter.all false
namespace Go.Proofs.YthpocbeoanipbaaGreatDoor
open Go.RowKit Go.Proofs.Tryz
set_option maxHeartbeats 8000000
set_option maxRecDepth 100000
section
open Go.Shelf
theorem zSW(Z:zE)(w:World):zc (zA4 Z w) 7 [zBY] [[.int .i64 1,.string ⟨#[]⟩,.int .i64 0,.int .i64 0,.slice none 0 0,.string ⟨#[114,101,115,116]⟩,.bool false]]:=by
 refine zc.one ⟨[.int .i64 1,.string ⟨#[]⟩,.int .i64 0,.int .i64 0,.slice none 0 0],?_,rfl,by decide⟩ rfl;show FmR Z w tFm _;unfold tFm FmR;exact⟨by unfold I64;omega,by decide,by unfold I64;omega,by unfold I64;omega,none,0,rfl,Nat.le_refl _,by decide,by decide,by unfold zi;trivial⟩
theorem zTj{l:List Int}{n:Nat}:l.getLast?=some (n:Int)↔∃h:0<l.length,l[l.length-1]=(n:Int):=by
 rw[List.getLast?_eq_getElem?];constructor
 ·intro h;obtain⟨b,a⟩:=List.getElem?_eq_some_iff.1 h;exact⟨by omega,a⟩
 ·rintro⟨b,a⟩;exact List.getElem?_eq_some_iff.2 ⟨by omega,a⟩
theorem zPa(Z:zE)(vd vl:Value)(t:zY)(w:World)(h:zAA Z w vd vl t)(hz:∀b,Z b->b<w.heap.size)(ae:zAD w.heap.size w):
  Calls prog 8 #[.agg #[vd,vl]] w λe w'=>e= .returned (.bool true)/\Below w.heap.size w w':=by
 have s:=hid (λW(hW:Below w.heap.size w W)=>(show zAD W.heap.size W from(ae.on hW).mono hW.size));have G:=hid (λW(hW:Below w.heap.size w W)=>(show zAA (λb=>b<W.heap.size) W vd vl t from(h.keep (.of_below hW)).mono λb a=>Nat.lt_of_lt_of_le (hz b a) hW.size));obtain⟨D,j,bp⟩:∃A2 g,vd= .slice A2 t.dom.length g:=by obtain⟨⟨A2,g,e,_⟩,_⟩:=h.d;exact⟨A2,g,e⟩
 obtain⟨LA,k,bc⟩:∃A2 g,vl= .slice A2 t.lines.length g:=by obtain⟨⟨A2,g,e,_⟩⟩:=h.l;exact⟨A2,g,e⟩
 subst bp bc;have ak:=hid (λ(h:z7 t=true) hle=>zUO (zAj.1 h) hle);clear h hz ae;have aq:=hid (Blk.new w 27 #[.slice D t.dom.length j,.slice LA t.lines.length k]);have af:=hid (zF w (.cells #[.slice D t.dom.length j,.slice LA t.lines.length k] 27));go_enter func8,ntmps8
 go_wp2_with fail
 refine(zEU _ (s.out _ af.out)).mono ?_;rintro e w1 ⟨rfl,a⟩;have N:=hid (aq.out.below a aq.out.lt);have ag:=hid (zD af.out a);clear a aq af;obtain⟨B,c,v,f,y⟩:=N.out.c2;go_wp2_with fail
 refine(zEp _ (λ_=>False) _ _ _ t [] _ (G.out _ ag.out) (zK.nil _ _) (λ_ h=>h)).mono ?_;rintro e w2 ⟨b,rfl,a,ab⟩;have O:=hid (N.out.below a N.out.lt);have K:=hid (zD ag.out a);have a0:=hid ab;clear a ab N ag B v c f y;cases b
 ·go_wp2_with fail
  go_ret;exact⟨rfl,K.out⟩
 ·obtain⟨bu,ad,-⟩:=a0.out (by first|exact rfl|trivial);have HS:=hid ad;clear ad a0;obtain⟨B,c,v,f,y⟩:=O.out.c2;go_wp2_with fail
  refine(zBX _ _ _ t _ (G.out _ K.out) (λ_ h=>h) (λx A=>Nat.le_trans (HS.out x A) (by decide))).mono ?_;rintro e w3 ⟨rfl,a⟩;have P:=hid (O.out.below a O.out.lt);have q:=hid (zD K.out a);clear a O K B v c f y;obtain⟨vt,bd⟩:∃vt,vt=z7 t:=⟨_,rfl⟩;rw[<-bd]at ak⊢;clear bd;cases vt
  ·(go_wp2_with fail);go_ret;exact⟨rfl,q.out⟩
  ·have HL:=hid (ak.out (by first|exact rfl|trivial) (by omega));clear ak;obtain⟨B,c,v,f,y⟩:=P.out.c2;have HM:=hid (Blk.new w3 27 #[.slice D t.dom.length j,.slice LA t.lines.length k]);have Q:=hid (P.out.alloc (.cells #[.slice D t.dom.length j,.slice LA t.lines.length k] 27));have ah:=hid (zD q.out (zF w3 (.cells #[.slice D t.dom.length j,.slice LA t.lines.length k] 27)));have bf:=hid (show w.heap.size<=w3.heap.size from q.out.size);have bg:=hid (show w.heap.size≠w3.heap.size from Nat.ne_of_lt P.out.lt);(go_upto_region 5 with fail);clear P q B v c f y;generalize w3.alloc (.cells #[.slice D t.dom.length j,.slice LA t.lines.length k] 27)=C at*;generalize w3.heap.size=mb at*;obtain⟨av,hE,ac⟩:=zGM (G.out w (Below.refl _ _)).l;have F:=hid (hE.size);have X:=hid (zDA hE);have ay:=hid hE;have Y:=hid (λ(W:World)(hW:Below C.heap.size C W)=>Row.keep ac (zA.of_below (zD ah.out hW)));clear hE ac;have hE:(C.alloc (.cells #[] 42)).ownsRow C.heap.size 42 7 (.slice (some ⟨C.heap.size,0,none⟩) 0 0) 0 []:=zHS (Blk.new C 42 #[]) (Nat.le_refl _) (by decide) rfl;have n:=hid (And.intro hE (zF C (.cells #[] 42)));clear hE;have ax:=Q.out.alloc (.cells #[] 42);have v:=ax.at1;have y:=ax.lt;clear ax;(go_upto_region 6 with(first|(at_builtin;refine zIP rfl (.tmp 25) (.tmp 27) _ rfl underlying25 Tryz.eLine rfl n.out.1 rfl F.out (Y.out _ n.out.2) X.out (by unfold maxLen;omega) (by omega) n.out.2.size ?_;intro v5 w5 J hg bi;have I:Below C.heap.size C w5:=ze n.out.2 n.out.1 hg n.out.2.size (Nat.le_refl _);have aw:w5.ownsRow C.heap.size 42 7 v5 t.lines.length av.flatten:=by(rw[Nat.zero_add,List.nil_append]at J;exact J))|(at_builtin;refine z6 rfl (.tmp 28) (.tmp 31) _ rfl underlying25 Tryz.eLine rfl (aw.alloc _) rfl (news:=[.int .i64 1,.string ⟨#[]⟩,.int .i64 0,.int .i64 0,.slice none 0 0,.string ⟨#[114,101,115,116]⟩,.bool false]) rfl (zIZ (cs:=[.int .i64 1,.string ⟨#[]⟩,.int .i64 0,.int .i64 0,.slice none 0 0,.string ⟨#[114,101,115,116]⟩,.bool false]) (Blk.new w5 42 #[.int .i64 1,.string ⟨#[]⟩,.int .i64 0,.int .i64 0,.slice none 0 0,.string ⟨#[114,101,115,116]⟩,.bool false])) (by simp[Value.oneCell']) (by unfold maxLen;omega) (by omega) (Nat.le_trans I.size (zF w5 _).size) ?_;intro v6 w6 o a9 a8;have T:Below C.heap.size C w6:=ze (I.trans ((zF w5 _).mono I.size)) (aw.alloc _) a9 (Nat.le_trans I.size (zF w5 _).size) (Nat.le_refl _);obtain⟨g6,H,bn⟩:=zAm o;subst bn;have hM:=HM.out.below T HM.out.lt;have z1:=hM.at1;have zf:=hM.frozen 1;have zl:=hM.lt)));have hd:=zGN (w:=w) (csl:=av) (dsl:=[[.int .i64 1,.string ⟨#[]⟩,.int .i64 0,.int .i64 0,.slice none 0 0,.string ⟨#[114,101,115,116]⟩,.bool false]]) ah.out T HM.out bf.out ay.out (zSW _ _) (by simpa using o) (ys:=[zBY]) rfl (by show t.lines.length+1<=1000;omega);have R:=hid ((Q.out.below T Q.out.lt).far (p:=⟨mb,1,none⟩) bg.out (.slice (some ⟨g6,0,none⟩) (t.lines.length+1) H));have al:=hid hd.1;have a2:=hid hd.2.1;have E:=hid hd.2.2;clear hd hM z1 zf zl T I aw J hg bi o a9 a8 v y Q HM ah n Y X F ay
   have az:=hid (show ∀x∈t.lines++[zBY],zG x.when_<=1000000 from λx A=>by
    rcases List.mem_append.1 A with A|A
    ·exact Nat.le_trans (HS.out x A) (by decide)
    ·rw[List.mem_singleton.1 A];decide)
   generalize w6.setCell ⟨mb,1,none⟩ (.slice (some ⟨g6,0,none⟩) (t.lines.length+1) H)=w7 at*;have a7:=hid (show zAA (λb=>b<w7.heap.size) w7 (.slice D t.dom.length j) (.slice (some ⟨g6,0,none⟩) (t.lines.length+1) H) ⟨t.dom,t.lines++[zBY]⟩ from⟨(G.out _ E.out).d,a2.out⟩);clear a2;generalize bb:(⟨t.dom,t.lines++[zBY]⟩:zY)=u at*;have ao:=hid bb.symm;clear bb;obtain⟨B,c,v,f,y⟩:=R.out.c2;(go_wp2_with fail);refine(zJA _ _ _ t _ (G.out _ E.out) (λ_ h=>h) (λx A=>Nat.le_trans (HS.out x A) (by decide)) (s.out _ E.out)).mono ?_;rintro e w8 ⟨va,rfl,U,a⟩;have M:=hid (al.out.below a al.out.lt);have ar:=hid (R.out.below a R.out.lt);have ai:=hid (zD E.out a);have ap:=hid (a7.out.up a);obtain⟨VA,bq,rfl,-⟩:=U.is;clear a U R al E a7 B v c f y;generalize zBF t=G1 at*;obtain⟨r1,e1⟩:=G1;obtain⟨B,c,v,f,y⟩:=M.out.c2;(go_wp2_with fail);refine(zJA _ _ _ u _ ap.out (λ_ h=>h) (by rw[ao.out];exact az.out) (s.out _ ai.out)).mono ?_;rintro e w9 ⟨vb,rfl,U,a⟩;have a5:=hid (M.out.below a M.out.lt);have au:=hid (ar.out.below a ar.out.lt);have aj:=hid (zD ai.out a);have a6:=hid (ap.out.up a);obtain⟨VB,br,rfl,-⟩:=U.is;clear a U M ar ai ap B v c f y;generalize zBF u=G2 at*;obtain⟨r2,e2⟩:=G2;obtain⟨B,c,v,f,y⟩:=a5.out.c2;(go_wp2_with fail);refine(zKD _ _ _ u _ a6.out (λ_ h=>h) (by rw[ao.out];exact az.out) (by rw[ao.out,List.length_append];show t.lines.length+1<=1000000;omega) (s.out _ aj.out)).mono ?_;rintro e bx ⟨vc,rfl,U,a⟩;have z:=hid (zD aj.out a);have bh:=hid (au.out.below a au.out.lt);have a1:=hid U;obtain⟨VC,bs,rfl,bk,bl,bm,-⟩:=U.is;clear a U a5 au aj a6 B v c f y;generalize zBe u=G3 at*;obtain⟨L,e3⟩:=G3;dsimp only at HL a1 bk bl bm⊢;obtain⟨n1,n2,n3,aa⟩:=HL.out;have V:=hid aa;clear aa HL;by_cases h1:e1=0
   ·by_cases h2:e2=0
    ·by_cases h3:e3=0
     ·subst h1 h2 h3;obtain⟨bj,ba⟩:=V.out rfl rfl rfl;subst bj;have a3:=hid (zTj.symm.trans ba);clear ba V
      cases hL:L.length with
      |zero=>
       have hr:r1.isSome=true:=by
        cases r1 with
        |some _=>rfl
        |none=>obtain⟨h,-⟩:=a3.out.2 rfl;omega
       rw[hr];(go_upto_region 11 with fail);go_quiet(fail);(go_wp2_with fail);go_ret;exact⟨rfl,((zA.of_below (Z:=λ_=>True) z.out).drewN _).below⟩
      |succ m=>
       obtain⟨vb,bt,rfl,-,bc,bo⟩:=a1.out.at_ (i:=m) (by omega)
       have a4:=hid (show(L[m]'(by omega)=(t.lines.length:Int))↔r1=none from by
        rw[<-a3.out];constructor
        ·intro h;refine⟨by omega,?_⟩;rw[<-h];congr 1;omega
        ·rintro⟨h1,h2⟩
         rw[<-h2];congr 1;omega)
       generalize L[m]'(by omega)=x at*;have vl:=lt_of_cell bo;obtain⟨B,c,v,f,y⟩:=bh.out.c2;(have bv:(0:Int)<((m+1:Nat):Int):=by omega);by_cases A:x=(t.lines.length:Int)
       ·(have hr:r1.isSome=false:=by rw[a4.out.1 A];rfl);rw[hr];(go_upto_region 11 with fail);go_quiet(fail);(go_wp2_with fail);go_ret;exact⟨rfl,((zA.of_below (Z:=λ_=>True) z.out).drewN _).below⟩
       ·have hr:r1.isSome=true:=by
         cases r1 with
         |some _=>rfl
         |none=>exact absurd (a4.out.2 rfl) A
        (have bw:((x:Int)==(t.lines.length:Int))=false:=by simp[A]);rw[hr];(go_upto_region 11 with fail);go_quiet(fail);(go_wp2_with fail);go_ret;exact⟨rfl,((zA.of_below (Z:=λ_=>True) z.out).drewN _).below⟩
     ·(have q3:((e3:Int)==(0:Int))=false:=by simp[h3]);subst h1 h2;(go_wp2_with fail);go_ret;exact⟨by simp[n3],z.out⟩
    ·(have q2:((e2:Int)==(0:Int))=false:=by simp[h2]);subst h1;(go_wp2_with fail);go_ret;exact⟨by simp[n2,n3],z.out⟩
   ·(have q1:((e1:Int)==(0:Int))=false:=by simp[h1]);(go_wp2_with fail);go_ret;exact⟨by simp[n1,n2,n3],z.out⟩
end
section
open Go.ChangeShapes Go.WideShapes Go.ChangeAt
theorem zK9(os:Os)(b:os.Started)(H:Type)(enc:TypeId × Value->H):
  ReturnsInHanded {} Tryz.checked os 8 .any (λw args=>(Rows.tariffLastSpec.pre enc prog Tryz.f8 [] false w args/\laidMetH prog zCV w)/\sizedMet enc prog Tryz.f8 (OpenSpec.ofChange Rows.tariffLastSpec) false w args)
   (Rows.tariffLastSpec.post enc prog Tryz.f8 false true false false):=by
 refine returnsInHanded_of_change_and (C:=Tryz.checked) (X:=λw _=>laidMetH prog zCV w) (λ_ _ _ F h=>h.of_heap F) own b (by kernel_rfl) func8
  (ChangeSpec.witness_shaped (enc:=enc) (C:=Tryz.checked) (os:=os) (X:=λw _=>laidMetH prog zCV w) false (World.doorLaid prog 62 os) #[.agg #[.slice none 0 0,.slice none 0 0]] 8 rfl (World.shaped_of_RefB (by kernel_rfl) (by kernel_rfl)) (by kernel_rfl) (by kernel_rfl) (by kernel_rfl) (zFd os _)) ?_
 intro W g args u A n a x _ c D _;have d:∀(j:Nat) t v,Tryz.f8.params[j]? =some t->args[j]? =some v->Value.okWide prog W .any g t v:=a;have k:=x;obtain⟨p,q,i,E,rfl,-,-⟩:=x;have o:DataW.TrodAll enc prog W 0 (λ_=>true) true Tryz.f8.params.toList args.toList u p:=i;have m:(DataW.weightsEach prog (Tryz.f8.params.toList++Rows.tariffLastSpec.plain.varTypes prog) (u++A)).all (· <=reachBytes)=true:=c;clear i c a;obtain⟨rfl,rfl⟩:=trodVars_none E;simp only[List.append_nil]at k;have s:=o;rw[params8]at o d m;obtain⟨J,K,L,z,M,N,f,rfl,rfl,B,G⟩:=trodAll_cons o;obtain⟨rfl,rfl,rfl⟩:=trodAll_nil G;obtain rfl:args=#[J]:=by simpa using congrArg List.toArray f
 obtain⟨O,P,I,rfl,y⟩:=zFn (d 0 27 _ rfl rfl) B (zDe m (j:=0) rfl rfl);refine(zPa (zCt W) _ _ I W y (λ_ h=>h) (zDi D)).mono λe W' ⟨he,hb⟩=> ?_
 subst he;exact⟨_,rfl,zFe k s rfl rfl (by kernel_rfl) (by kernel_rfl) hb⟩
theorem zLL:(Rows.tariffLastRow.inPlace==prog.inPlace 8)=true:=by kernel_rfl
theorem zKa:(Rows.tariffLastRow.unfollowed==prog.unfollowed 8)=true:=by kernel_rfl
theorem zKb:(Rows.tariffLastRow.recurses==prog.recurses 8)=true:=by kernel_rfl
theorem zLM:(Rows.tariffLastRow.named==prog.varsNamed 8)=true:=by kernel_rfl
theorem zLN:joinedFacts prog 8 Tryz.f8 Rows.tariffLastSpec Rows.tariffLastRow=true:=
 zDS (by kernel_rfl) laidOut zGm (by kernel_rfl) (by kernel_rfl) rfl zGn rfl zGo zLL zKa zKb zLM (by kernel_rfl) (by kernel_rfl) (by kernel_rfl) (by kernel_rfl) (by kernel_rfl) rfl (by kernel_rfl) (by kernel_rfl) (by kernel_rfl)
  zIL rfl zGp zGq zGr zIM rfl (by kernel_rfl) (by kernel_rfl) (by kernel_rfl)
theorem zLO:Rows.TariffLastSaid:=
 OpenClaim.holds_of_wide 8 Tryz.f8 rfl rfl rfl rfl rfl rfl rfl ⟨rfl,rfl,rfl,rfl,rfl⟩ rfl rfl rfl rfl rfl (by kernel_rfl) func8 zLN
  (of_decide_eq_true (by kernel_rfl)) (by unfold Func.isWrapper;rw[if_neg (of_decide_eq_false (by kernel_rfl))];exact⟨rfl,rfl⟩)
  (λc a H b _=>zK9 c a H b)
theorem tarifflast_card:Rows.TariffLastCardSaid:=
 Claim7.holds_tied_plain_at .later [] [.data,.data,.data,.sentinel,.sentinel] true (true,"9d5f64aa18c290daaccff0ab2ce20b26d467f80ee7c9efc2112ab5ceb4813111") true
  zLO (λ_ h=>by cases h) (by kernel_rfl) (λ_ h=>by cases h) tariffLast_row_tie rfl ⟨rfl,rfl⟩ (by kernel_rfl) rfl
  (λf fn hf hfn=>by
   obtain rfl:f=8:=Option.some.inj ((show prog.funcNamed "customhouse/customhouselaw27.TariffLast" =some 8 by kernel_rfl).symm.trans hf) |>.symm;obtain rfl:fn=Tryz.f8:=(Option.some.inj (func8.symm.trans hfn)).symm
   exact⟨by kernel_rfl,λj t ht=>by
    rw[params8]at ht;(have hm:t∈[27]:=by simpa using Array.mem_of_getElem? ht);have hall:([27].all λu=> !prog.wantsStandIn u)=true:=by kernel_rfl
    exact(show prog.wantsStandIn t=false by simpa using List.all_eq_true.1 hall t hm)⟩)
  (by kernel_rfl)
end
end Go.Proofs.YthpocbeoanipbaaGreatDoor
