/- EqualOrder returns true for every list and scene, its arguments as before. Conditions: the row's own. -/
import Derived.Test.YtommaegelgilnaaGreatDoorM44
import Derived.Test.YtommaegelgilnaaGreatDoorCards
import Derived.Test.YtommaegelgilnaaGreatDoorTie
set_option linter.all false
namespace Go.Proofs.YtommaegelgilnaaGreatDoor
open Go.RowKit Go.Proofs.Tryz
set_option maxHeartbeats 8000000
set_option maxRecDepth 100000
section
open Go.Shelf
theorem zSV{α:Type}{l:List α}{m:Nat}(h:m<l.length):(l.drop m).reverse =(l.drop (m+1)).reverse ++[l[m]]:=by
 rw[List.drop_eq_getElem_cons h,List.reverse_cons]
theorem zNJ(Z:zD)(vl vd va vz vc:Value)(l:List zF)(s:zM)(w:World)(hl:zn Z w vl l)(h:zBq Z w vd va vz vc s)(hz:∀b,Z b->b<w.heap.size)(ht:zBr w.heap.size w):
  Calls prog 7 #[vl,.agg #[vd,va,vz,vc,.int .i64 s.signed,.int .i64 s.now]] w λe w'=>e= .returned (.bool true)/\Below w.heap.size w w':=by
 have ak:=hid (λW(hW:Below w.heap.size w W)=>(ht.on hW).mono hW.size);have aj:=hid (λW(hW:Below w.heap.size w W)=>h.keep (show zA Z w W from .of_below_lt hW λb _ i=>hz b i));have ah:=hid (λW(hW:Below w.heap.size w W)=>zn.keep hl (show zA Z w W from .of_below_lt hW λb _ i=>hz b i));have HZ:=hid hz;obtain⟨LA,a9,rfl,bh⟩:=zj.form hl;have az:=hid (λk(hk:k<l.length)=>zj.at_ hl hk);obtain⟨DA,E,rfl⟩:∃A2 B,vd= .slice A2 s.dom.length B:=by obtain⟨⟨A2,B,e,_⟩,_⟩:=h.d;exact⟨A2,B,e⟩
 obtain⟨NA,H,rfl,-,-,bi⟩:=h.a.form;obtain⟨ZA,I,rfl,bn⟩:=zj.form h.z;obtain⟨CA,C,rfl,bc⟩:=zj.form h.c;clear hl h hz ht;have bk:=Blk.new w 30 #[.slice DA s.dom.length E,.slice NA s.auths.length H,.slice ZA s.zones.length I,.slice CA s.cases.length C,.int .i64 s.signed,.int .i64 s.now];have ap:=zG w (.cells #[.slice DA s.dom.length E,.slice NA s.auths.length H,.slice ZA s.zones.length I,.slice CA s.cases.length C,.int .i64 s.signed,.int .i64 s.now] 30);go_enter func7,ntmps7
 go_upto_region 1 with fail
 generalize w.alloc (.cells #[.slice DA s.dom.length E,.slice NA s.auths.length H,.slice ZA s.zones.length I,.slice CA s.cases.length C,.int .i64 s.signed,.int .i64 s.now] 30)=w0 at*;have HX:=hid bk;have HW:=hid ap;clear bk ap;go_wp2_with fail
 refine(zQq w0 (ak _ HW)).mono ?_;rintro e w1 ⟨rfl,i⟩;have A:=hid (zC HW i);have K:=hid (HX.below i HX.lt);clear i HX HW;obtain⟨q0,V,q1,Y,q2,aa,q3,ab,q4,ac,q5,ad,ql⟩:=K.out.d6;go_wp2_with fail
 refine(zSC Z _ _ _ _ _ _ l [] s w1 (ah _ A) zj.nil (aj _ A) (λb i=>Nat.lt_of_lt_of_le (HZ b i) A.size)).mono ?_;rintro e w2 ⟨t,rfl,i,M⟩;have J:=hid (zC A i);have O:=hid (K.below i K.lt);have HF:=hid M;clear i M K A q0 q1 q2 q3 q4 q5 V Y aa ab ac ad ql
 cases t with
 |false=>
  go_wp2_with fail
  go_ret;exact⟨rfl,J⟩
 |true=>
  have HP:=hid (HF (by trivial));have bg:=HP.a5;clear HF;go_wp2_with fail
  go_loopw[6,7] (λbv iv wr=>∃(j:Nat)(D:List (List Value)),j<=l.length/\iv= .int .i64 ((j:Int)-1)/\Hid (wr.ownsRow w2.heap.size 54 12 bv (l.drop j).reverse.length D.flatten)/\Hid (zB7 (zBs Z w) 12 (l.drop j).reverse D)/\Hid (Below w2.heap.size w2 wr)) (λ_ iv _=>(intOf iv+1).toNat);case atStart=>exact⟨l.length,[],Nat.le_refl _,rfl,by rw[List.drop_length];exact hid (zBi _ _ _ _),by rw[List.drop_length];exact hid trivial,hid (Below.refl _ _)⟩
  case round=>
   obtain⟨j,D,hj,rfl,n,y,v⟩:=hrel
   cases j with
   |succ m=>
    (have aw:m<l.length:=by omega);(have ax:((m+1:Nat):Int)-1=(m:Int):=by omega);rw[ax];obtain⟨b,bo,cs,rfl,a8,dc,P⟩:=az m aw;have ai:=hid P;(have bd:(l.drop (m+1)).reverse.length =l.length-(m+1):=by rw[List.length_reverse,List.length_drop]);have af:=hid (zSV aw);obtain⟨FA,F,rfl,-⟩:=P.form;have a6:b<w.heap.size:=HZ b a8;obtain⟨c0,c1,c2,c3,c4,c5,c6,c7,c8,c9,a3,a4⟩:=zBQ (λj u hu=>((zC J v).cell (p:=⟨b,_,none⟩) a6).trans (dc j u hu));have bb:=lt_of_cell c0;have bm:=v.size;(have bf:(m:Int)<(l.length:Int):=by omega);clear dc P ax;generalize l[m]=x at*;generalize (l.drop (m+1)).reverse =L at*;have ag:=hid (zM8 (L:=L) ai rfl D y);obtain⟨id,au,kd,tg,⟨op,nm,cm,nu,kids⟩,fr,un,wi⟩:=x;simp only[Fm.op,Fm.name,Fm.cmp,Fm.num,Fm.kids]at ag c0 c1 c2 c3 c4 c5 c6 c7 c8 c9 a3 a4;generalize kids.length=kl at*;clear ai y;obtain⟨RA,ay,R,-,-,-⟩:=Row.of_own n (by decide);subst R;go_wp2_with(at_builtin;refine zh rfl (.tmp 24) (.tmp 29) _ rfl underlying22 Tryz.eMeas rfl (n.alloc _) rfl (news:=[.string id,.string au,.int .i64 kd,.string tg,.int .i64 op,.string nm,.int .i64 cm,.int .i64 nu,.slice FA kl F,.int .i64 fr,.int .i64 un,.int .i64 wi]) rfl (zNR (cs:=[.string id,.string au,.int .i64 kd,.string tg,.int .i64 op,.string nm,.int .i64 cm,.int .i64 nu,.slice FA kl F,.int .i64 fr,.int .i64 un,.int .i64 wi]) (t:=54) (g:=wr.heap.size) (Blk.new wr 54 #[.string id,.string au,.int .i64 kd,.string tg,.int .i64 op,.string nm,.int .i64 cm,.int .i64 nu,.slice FA kl F,.int .i64 fr,.int .i64 un,.int .i64 wi])) (by simp[Value.oneCell']) (by unfold maxLen;omega) (by omega) (by simp;omega) ?_;intro v5 w5 G av ao);have a1:=hid G;have a0:=hid (zAs (v.alloc v.size _) (n.alloc _) av (by simp;omega) (Nat.le_refl _));clear G av ao n v;(go_wp2_with fail);go_roundw;(case rel=>exact⟨m,D++[_],by omega,rfl,by rw[af.out,List.length_append,List.flatten_append];simpa using a1,by rw[af.out];exact ag,a0⟩);case measure=>simp[intOf]
   |zero=>
    rw[List.drop_zero]at n y;have Q:l.reverse.length=l.length:=List.length_reverse;rw[Q]at n;(rename World=>w3);have o:=hid (zC J v);have al:=hid (O.below v O.lt);have ae:=hid (zOE (Z:=λb=>b<w3.heap.size) (w:=w3) (by rw[Q];exact n) (y.imp λcs f hf=>zBs.mono (zBs.keep hf (.of_below_lt o λb _ i=>HZ b i)) λb i=>Nat.lt_of_lt_of_le (HZ b i) o.size) (by rw[Q];omega) (λb i=>(n.lt b i).2));obtain⟨RA,ay,R,-,-,-⟩:=Row.of_own n (by decide);subst R;clear O J y v n;obtain⟨q0,V,q1,Y,q2,aa,q3,ab,q4,ac,q5,ad,ql⟩:=al.out.d6;(go_wp2_with fail);refine(zFO (λb=>b<w3.heap.size) _ _ _ _ _ _ l l.reverse s w3 (zn.mono (ah _ o) λb i=>Nat.lt_of_lt_of_le (HZ b i) o.size) ae ((aj _ o).mono λb i=>Nat.lt_of_lt_of_le (HZ b i) o.size) (λb i=>i) (λm hm=>by have:=HP.fa m hm;omega) (λm hm=>by have:=HP.fa m (List.mem_reverse.1 hm);omega) (ak _ o)).mono ?_;rintro e w4 ⟨vc,p,q,r,t,rfl,ar,T,U,aq⟩;obtain⟨C1,C2,rfl,-⟩:=ar.form;obtain⟨P1,P2,rfl,-⟩:=T.at_.1.form;obtain⟨P3,P4,rfl,-⟩:=T.at_.2.form;obtain⟨P5,P6,rfl,-⟩:=U.at_.1.form;obtain⟨P7,P8,rfl,-⟩:=U.at_.2.form;clear ar T U;have a2:=hid (zC o aq);have N:(zAO l l.reverse s).2.1=false:=zRt;rw[N];clear aq al o ae q0 q1 q2 q3 q4 q5 V Y aa ab ac ad ql N;generalize zAO l l.reverse s=X at*;simp only[zKX];go_wp2_with(refine zN rfl 38 _ _ rfl rfl rfl (Blk.new _ _ _) rfl (by kernel_rfl) (by simp[Value.oneCell']) ?_;intro w5 ba a7 bj);go_ret;exact⟨rfl,zC a2 ((zG w4 _).trans (z8 (a7.mono λb _(i:b<w4.heap.size)=>by omega) (by simp)))⟩
end
section
open Go.ChangeShapes Go.WideShapes Go.ChangeAt
theorem zJ2(os:Os)(c:os.Started)(H:Type)(enc:TypeId × Value->H):
  ReturnsInHanded {} Tryz.checked os 7 .any (λw args=>(Rows.equalOrderSpec.pre enc prog f7 [] false w args/\laidMetH prog zJW w)/\sizedMet enc prog f7 (OpenSpec.ofChange Rows.equalOrderSpec) false w args)
   (Rows.equalOrderSpec.post enc prog f7 false true false false):=by
 refine returnsInHanded_of_change_and (C:=Tryz.checked) (X:=λw _=>laidMetH prog zJW w) (λ_ _ _ J h=>h.of_heap J) own c (by kernel_rfl) func7
  (ChangeSpec.witness_shaped (enc:=enc) (C:=Tryz.checked) (os:=os) (X:=λw _=>laidMetH prog zJW w) false (World.doorLaid prog 62 os) #[.slice none 0 0,.agg #[.slice none 0 0,.slice none 0 0,.slice none 0 0,.slice none 0 0,.int .i64 0,.int .i64 0]] 8 rfl (World.shaped_of_RefB (by kernel_rfl) (by kernel_rfl)) (by kernel_rfl) (by kernel_rfl) (by kernel_rfl) (zSa os _)) ?_
 intro W i args u D n b x _ d G _;have a:∀(j:Nat) t v,f7.params[j]? =some t->args[j]? =some v->Value.okWide prog W .any i t v:=b;have m:=x;obtain⟨p,q,k,I,rfl,-,-⟩:=x;have o:DataW.TrodAll enc prog W 0 (λ_=>true) true f7.params.toList args.toList u p:=k;have g:(DataW.weightsEach prog (f7.params.toList++Rows.equalOrderSpec.plain.varTypes prog) (u++D)).all (· <=reachBytes)=true:=d;clear k d b;obtain⟨rfl,rfl⟩:=trodVars_none I;simp only[List.append_nil]at m;have s:=o;rw[params7]at o a g;obtain⟨O,Q,T,A,V,Z,f,rfl,rfl,E,L⟩:=trodAll_cons o;obtain⟨P,R,U,B,Y,q1,rfl,rfl,rfl,F,M⟩:=trodAll_cons L;obtain⟨rfl,rfl,rfl⟩:=trodAll_nil M;obtain rfl:args=#[O,P]:=by simpa using congrArg List.toArray f
 obtain⟨K,y⟩:=zSx (a 0 22 _ rfl rfl) E (zRZ g (j:=0) rfl rfl);obtain⟨vd,va,vz,vc,N,rfl,z⟩:=zRm (a 1 30 _ rfl rfl) F (zRZ g (j:=1) rfl rfl);refine(zNJ (zCf W) _ _ _ _ _ K N W y z (λ_ h=>h) (zOb G)).mono λe W' ⟨he,hb⟩=> ?_
 subst he;exact⟨_,rfl,zSb m s rfl rfl (by kernel_rfl) (by kernel_rfl) hb⟩
theorem zJy:(Rows.equalOrderRow.inPlace==prog.inPlace 7)=true:=by kernel_rfl
theorem zJ3:(Rows.equalOrderRow.unfollowed==prog.unfollowed 7)=true:=by kernel_rfl
theorem zJ4:(Rows.equalOrderRow.recurses==prog.recurses 7)=true:=by kernel_rfl
theorem zJz:(Rows.equalOrderRow.named==prog.varsNamed 7)=true:=by kernel_rfl
theorem zKA:joinedFacts prog 7 f7 Rows.equalOrderSpec Rows.equalOrderRow=true:=
 zN6 (by kernel_rfl) laidOut zTi (by kernel_rfl) (by kernel_rfl) rfl zTj rfl zTk zJy zJ3 zJ4 zJz (by kernel_rfl) (by kernel_rfl) (by kernel_rfl) (by kernel_rfl) (by kernel_rfl) rfl (by kernel_rfl) (by kernel_rfl) (by kernel_rfl)
  zUH rfl zTl zTm zTn zUI rfl (by kernel_rfl) (by kernel_rfl) (by kernel_rfl)
theorem zKB:Rows.EqualOrderSaid:=
 OpenClaim.holds_of_wide 7 f7 rfl rfl rfl rfl rfl rfl rfl ⟨rfl,rfl,rfl,rfl,rfl⟩ rfl rfl rfl rfl rfl (by kernel_rfl) func7 zKA
  (of_decide_eq_true (by kernel_rfl)) (by unfold Func.isWrapper;rw[if_neg (of_decide_eq_false (by kernel_rfl))];exact⟨rfl,rfl⟩)
  (λc a H b _=>zJ2 c a H b)
theorem zMk:Rows.equalOrderRow.wfByText (OpenSpec.ofChange Rows.equalOrderSpec)=true:=by kernel_rfl
theorem zMl:prog.funcNamed "customhouse/customhouselaw33.EqualOrder" =some 7:=by kernel_rfl
theorem zKC:([22,30].all λu=> !prog.wantsStandIn u)=true:=by kernel_rfl
theorem zK0:false=Rows.equalOrderRow.goesBy Tryz.pinned.checked.prog:=by kernel_rfl
theorem equalorder_card:Rows.EqualOrderCardSaid:=
 Claim7.holds_tied_plain_at .later [] [.data,.data,.data,.sentinel,.sentinel] true (true,"b7c691893ac5ffd63a8a77a1c3b8b90599a3d2dc70d51f5bf9900650e53e98a9") true
  zKB (λ_ h=>by cases h) zMk (λ_ h=>by cases h) equalOrder_row_tie rfl ⟨rfl,rfl⟩ zUJ rfl
  (λf fn hf hfn=>by
   obtain rfl:f=7:=Option.some.inj (zMl.symm.trans hf) |>.symm;obtain rfl:fn=f7:=(Option.some.inj (func7.symm.trans hfn)).symm
   exact⟨zTo,λj t ht=>by
    rw[params7]at ht;have hm:t∈[22,30]:=by simpa using Array.mem_of_getElem? ht
    exact(show prog.wantsStandIn t=false by simpa using List.all_eq_true.1 zKC t hm)⟩)
  zK0
end
end Go.Proofs.YtommaegelgilnaaGreatDoor
