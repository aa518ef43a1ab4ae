/- EqualOthers: for every list and scene, whatever they are: the law returns true, and the arguments read behind the call as before it. Conditions: the row's own (the listed variables of Go's library read as its text lays them: the card ties them). -/
import Derived.Test.YtommaegelgilnaaGreatDoorM44
import Derived.Test.YtommaegelgilnaaGreatDoorCards
import Derived.Test.YtommaegelgilnaaGreatDoorTie
set_option linter.all false
namespace Go.Proofs.YtommaegelgilnaaGreatDoor
open Go.RowKit Go.Proofs.Tryz
set_option maxHeartbeats 8000000
set_option maxRecDepth 100000
variable {m:zF}{s:zM}
section
variable {l a b:List zF} {s:zM} {sg now:Int} {c:List Int}
def zXQ(s:zM)(m:zF):Bool:=decide (placeOf s.auths m.auth<s.auths.length)
theorem zUp{t u k:Int}(h:zFF s t u k m=true):zXQ s m=true:=by
 unfold zFF at h;simp only[Bool.and_eq_true]at h;exact h.1.1
theorem zU7(p:zF->Bool)(h:∀m,p m=true->zXQ s m=true):(l.filter (zXQ s)).any p=l.any p:=by
 rw[Bool.eq_iff_iff,List.any_eq_true,List.any_eq_true];constructor
 ·rintro⟨x,hx,h1⟩;exact⟨x,(List.mem_filter.1 hx).1,h1⟩
 ·rintro⟨x,hx,h1⟩;exact⟨x,List.mem_filter.2 ⟨hx,h x h1⟩,h1⟩
theorem zW8{x:zHQ}{is:Bool}{e:Int}(h:zAO l (l.filter (zXQ s)) s=(x,is,e)):is=false/\(e=(zP l s).2\/(zP l s).2=0/\e=2):=by
 have o:(zAO l (l.filter (zXQ s)) s).2.1=false:=zRs λ_ _ sg now c=>by
  have w:∀m,exB l s sg now c m=exB (l.filter (zXQ s)) s sg now c m:=λm=>(zU7 _ λx f=>by rw[Bool.and_eq_true]at f;exact zUp f.1).symm
  have k:fbB l s sg now c=fbB (l.filter (zXQ s)) s sg now c:=by funext m;unfold fbB;rw[w]
  have B:∀x,fbB (l.filter (zXQ s)) s sg now c x=true->zXQ s x=true:=λx f=>by unfold fbB at f;rw[Bool.and_eq_true]at f;exact zUp f.1
  have t:blB l s sg now c=blB (l.filter (zXQ s)) s sg now c:=by
   funext m;unfold blB;rw[k,zU7 (λx=>decide (x.auth=m.target)&&fbB (l.filter (zXQ s)) s sg now c x) λx f=>by rw[Bool.and_eq_true]at f;exact B x f.2]
  unfold zHF zFo;rw[k,t];exact⟨(zU7 _ B).symm,(zU7 _ λx f=>by unfold blB at f;rw[Bool.and_eq_true]at f;exact zUp f.1).symm⟩
 rw[h]at o;refine⟨o,?_⟩;have he:(zAO l (l.filter (zXQ s)) s).2.2=e:=by rw[h]
 rw[<-he];by_cases j:MOk l s
 ·have D:MOk (l.filter (zXQ s)) s:=⟨j.p,Nat.le_trans (List.length_filter_le _ _) j.n,λm F=>j.v m (List.mem_filter.1 F).1,(List.filter_sublist.map _).nodup j.d⟩;have A:=zUb j;have u:=zUb D;rw[A];have q:=j.p;unfold zAO;rw[if_neg (by simp[q]),if_neg (by rw[A];simp),if_neg (by rw[u];simp)];split
  ·exact .inr ⟨rfl,rfl⟩
  ·(have y:∀l,BInv s.dom l ⟨0,[]⟩:=λl _ i g h=>by simp[mapD]at h);have z:=zJm (zD6.1 q).d (a:=l) (b:=l.filter (zXQ s)) (s:=s) (zx (zDL l (l.filter (zXQ s)) s)) ⟨0,[]⟩ ⟨0,[]⟩ (y _) (y _)
   cases C:(zBk l (l.filter (zXQ s)) s (zx (zDL l (l.filter (zXQ s)) s)) ⟨0,[]⟩ ⟨0,[]⟩).2.1 with
   |false=>exact(z.2 C).2.elim (λh=> .inr ⟨rfl,h⟩) (λh=> .inl h.1)
   |true=>exact .inl (z.1 C).1
 ·left;unfold zAO;have E:(zP l s).2≠0:=by rw[zLM];exact λh=>j (zBt.1 h)
  split
  ·rename_i q;rw[zLM];unfold zDc;rw[if_pos q]
  ·rfl
end
section
open Go.Shelf
theorem zWj{l:List zF}{k:Nat}(a:k<l.length):(l.take (k+1)).filter (zXQ s)=(l.take k).filter (zXQ s)++(if zXQ s l[k]=true then[l[k]]else[]):=by
 rw[zXN a,List.filter_append];congr 1;simp only[List.filter];cases zXQ s l[k]<;>rfl
theorem zWx:zXQ s m=true↔m.auth∈s.auths:=by
 unfold zXQ;rw[decide_eq_true_eq];exact zJl
theorem zWK(Z:zD)(vl vd va vz vc:Value)(l:List zF)(s:zM)(w:World)(hl:zn Z w vl l)(h:zBq Z w vd va vz vc s)(hz:∀b,Z b->b<w.heap.size)(ht:zBr w.heap.size w):
  Calls prog 8 #[vl,.agg #[vd,va,vz,vc,.int .i64 s.signed,.int .i64 s.now]] w λe w'=>e= .returned (.bool true)/\Below w.heap.size w w':=by
 have bd:=hid (λW(hW:Below w.heap.size w W)=>(ht.on hW).mono hW.size);have av:=hid (λW(hW:Below w.heap.size w W)=>h.keep (show zA Z w W from .of_below_lt hW λb _ i=>hz b i));have ao:=hid (λW(hW:Below w.heap.size w W)=>zn.keep hl (show zA Z w W from .of_below_lt hW λb _ i=>hz b i));have HZ:=hid hz;have b3:=hid h.a;obtain⟨LA,ce,rfl,cn⟩:=zj.form hl;have bx:=hid (λk(hk:k<l.length)=>zj.at_ hl hk);obtain⟨DA,Q,rfl⟩:∃A2 N,vd= .slice A2 s.dom.length N:=by obtain⟨⟨A2,N,e,_⟩,_⟩:=h.d;exact⟨A2,N,e⟩
 obtain⟨NA,U,rfl,-,-,bt⟩:=h.a.form;obtain⟨ZA,ae,rfl,ct⟩:=zj.form h.z;obtain⟨CA,O,rfl,ci⟩:=zj.form h.c;clear hl h hz ht;have bk:=Blk.new w 30 #[.slice DA s.dom.length Q,.slice NA s.auths.length U,.slice ZA s.zones.length ae,.slice CA s.cases.length O,.int .i64 s.signed,.int .i64 s.now];have bi:=zG w (.cells #[.slice DA s.dom.length Q,.slice NA s.auths.length U,.slice ZA s.zones.length ae,.slice CA s.cases.length O,.int .i64 s.signed,.int .i64 s.now] 30);go_enter func8,ntmps8
 go_upto_region 1 with fail
 generalize w.alloc _=w0 at*;have HX:=hid bk;have HW:=hid bi;clear bk bi;go_wp2_with fail
 refine(zQq w0 (bd _ HW)).mono ?_;rintro e w1 ⟨rfl,i⟩;have J:=hid (zC HW i);have ah:=hid (HX.below i HX.lt);clear i HX HW;obtain⟨q0,V,q1,Y,q2,aa,q3,ab,q4,ac,q5,ad,ql⟩:=ah.out.d6;go_wp2_with fail
 refine(zSC Z _ _ _ _ _ _ l [] s w1 (ao _ J) zj.nil (av _ J) (λb i=>Nat.lt_of_lt_of_le (HZ b i) J.size)).mono ?_;rintro e w2 ⟨t,rfl,i,ak⟩;have K:=hid (zC J i);have M:=hid (ah.below i ah.lt);have HF:=hid ak;clear i ak ah J q0 q1 q2 q3 q4 q5 V Y aa ab ac ad ql
 cases t with
 |false=>
  go_wp2_with fail
  go_ret;exact⟨rfl,K⟩
 |true=>
  have HP:=hid (HF (by trivial));have cl:=HP.a5;clear HF;go_wp2_with fail
  go_loopw[6,7,8] (λbv iv _ wr=>∃(k:Nat)(v:List (List Value)),k<=l.length/\iv= .int .i64 k/\Hid (wr.ownsRow w2.heap.size 54 12 bv ((l.take k).filter (zXQ s)).length v.flatten)/\Hid (zB7 (zBs Z w) 12 ((l.take k).filter (zXQ s)) v)/\Hid (Below w2.heap.size w2 wr)) (λ_ iv _ _=>l.length-(intOf iv).toNat);case atStart=>exact⟨0,[],Nat.zero_le _,rfl,hid (zBi _ _ _ _),hid trivial,hid (Below.refl _ _)⟩
  case round=>
   obtain⟨k,v,hk,rfl,B,H,af⟩:=hrel;by_cases bs:k<l.length
   ·obtain⟨b,cu,cs,rfl,cb,dc,a1⟩:=bx k bs;have a9:=hid a1;have cd:((l.take k).filter (zXQ s)).length <=k:=Nat.le_trans (List.length_filter_le _ _) (by rw[List.length_take];omega);have I:=hid (zWj (s:=s) bs);have ar:=hid (zWx (s:=s) (m:=l[k]));obtain⟨FA,R,rfl,-⟩:=a1.form;have b8:b<w.heap.size:=HZ b cb;have al:=hid (λW(hW:Below w2.heap.size w2 W)=>(show _ from zBQ (λj u hu=>((zC K hW).cell (p:=⟨b,_,none⟩) b8).trans (dc j u hu))));(have ck:(k:Int)<(l.length:Int):=by omega);(have co:(s.auths.length:Int)<=8:=by have:=HP.n;omega);clear dc a1;generalize l[k]=x at*;generalize (l.take k).filter (zXQ s)=L at*;have a8:=hid (zM8 (L:=L) a9 rfl v H);obtain⟨id,E,kd,tg,⟨op,nm,cm,nu,kids⟩,fr,un,wi⟩:=x;simp only[Fm.op,Fm.name,Fm.cmp,Fm.num,Fm.kids]at a8 al ar I;generalize kids.length=kl at*;clear a9;obtain⟨RA,y,a2,-,-,-⟩:=Row.of_own B (by decide);subst a2;(go_wp2_with fail);go_loopw[6,8] (λb6 jv x2=>∃(j:Nat),j<=s.auths.length/\jv= .int .i64 j/\b6= .slice RA L.length y/\Hid (∀a∈s.auths.take j,a≠E)/\Hid (x2.ownsRow w2.heap.size 54 12 (.slice RA L.length y) L.length v.flatten)/\Hid (Below w2.heap.size w2 x2)) (λ_ jv _=>s.auths.length-(intOf jv).toNat);case atStart=>exact⟨0,Nat.zero_le _,rfl,rfl,hid (by simp),B,af⟩
    case round=>
     obtain⟨j,hj,rfl,rfl,ba,ag,A⟩:=hrel;(rename World=>x2);have C:=hid (M.below A M.lt);have n1:=C.at1;have nl:=C.lt;by_cases a0:j<s.auths.length
     ·obtain⟨nb,bw,rfl,-,b9,aj⟩:=b3.at_ a0;replace aj:=((zC K A).cell (p:=⟨nb,bw+j,none⟩) b9).trans aj;have bt:=lt_of_cell aj;obtain⟨c0,c1,c2,c3,c4,c5,c6,c7,c8,c9,aw,ax⟩:=al x2 A.out;have bm:=lt_of_cell c0;(have cj:(j:Int)<(s.auths.length:Int):=by omega);(have cc:(j:Int)<10:=by omega);have ap:=hid (λ(h:s.auths[j]≠E)=>zQY (P:=λa=>a≠E) a0 ba h);have b1:=hid (List.getElem_mem a0);generalize s.auths[j]=a6 at*;by_cases F:a6=E
      ·(have e2:(a6.toList==E.toList)=true:=by rw[zBK];simp[F]);have bc:=hid (show zXQ s ⟨id,E,kd,tg,.mk op nm cm nu kids,fr,un,wi⟩=true from ar.2 (F▸b1));clear ap F;go_wp2;go_quiet(fail);have G:=hid (below_drewN' A nq);have aq:=hid (show(x2.drewN nq).ownsRow w2.heap.size 54 12 (.slice RA L.length y) L.length v.flatten from ag);clear ag A C n1 nl aj bt bm c0 c1 c2 c3 c4 c5 c6 c7 c8 c9 aw ax;generalize x2.drewN nq=x3 at*;obtain⟨c0,c1,c2,c3,c4,c5,c6,c7,c8,c9,aw,ax⟩:=al x3 G.out;have bm:=lt_of_cell c0;have cr:=G.size;go_wp2_with(at_builtin;refine zh rfl (.tmp 48) (.tmp 53) _ rfl underlying22 Tryz.eMeas rfl (aq.alloc _) rfl (news:=[.string id,.string E,.int .i64 kd,.string tg,.int .i64 op,.string nm,.int .i64 cm,.int .i64 nu,.slice FA kl R,.int .i64 fr,.int .i64 un,.int .i64 wi]) rfl (zNR (cs:=[.string id,.string E,.int .i64 kd,.string tg,.int .i64 op,.string nm,.int .i64 cm,.int .i64 nu,.slice FA kl R,.int .i64 fr,.int .i64 un,.int .i64 wi]) (t:=54) (g:=x3.heap.size) (Blk.new x3 54 #[.string id,.string E,.int .i64 kd,.string tg,.int .i64 op,.string nm,.int .i64 cm,.int .i64 nu,.slice FA kl R,.int .i64 fr,.int .i64 un,.int .i64 wi])) (by simp[Value.oneCell']) (by unfold maxLen;omega) (by omega) (by simp;omega) ?_;intro v5 w5 T bp bh);have b4:=hid T;have bz:=hid (zAs (G.alloc G.size _) (aq.alloc _) bp (by simp;omega) (Nat.le_refl _));clear T bp bh aq G;(go_wp2_with fail);go_roundw;(case rel=>exact⟨k+1,v++[_],by omega,by go_num,by rw[I.out,bc.out,if_pos rfl,List.length_append,List.flatten_append];simpa using b4,by rw[I.out,bc.out,if_pos rfl];exact a8,bz⟩);case measure=>simp[intOf];omega
      ·(have e2:(a6.toList==E.toList)=false:=by rw[zBK];simp[F]);have b2:=hid (ap F);clear ap F;go_wp2;go_quiet(fail);clear c0 c1 c2 c3 c4 c5 c6 c7 c8 c9 aw ax;go_wp2;go_roundw;(case rel=>exact⟨j+1,by omega,by go_num,rfl,b2,hid (show(x2.drewN nq).ownsRow w2.heap.size 54 12 (.slice RA L.length y) L.length v.flatten from ag),hid (below_drewN' A nq)⟩);case measure=>simp[intOf];omega
     ·obtain rfl:j=s.auths.length:=by omega
      have bb:=hid (show zXQ s ⟨id,E,kd,tg,.mk op nm cm nu kids,fr,un,wi⟩=false from by
       cases ho:zXQ s ⟨id,E,kd,tg,.mk op nm cm nu kids,fr,un,wi⟩with
       |false=>rfl
       |true=>
        have h:=ba.out;rw[List.take_length]at h
        exact absurd rfl (h E (ar.1 ho)))
      (go_wp2_with fail);go_roundw;(case rel=>exact⟨k+1,v,by omega,by go_num,by rw[I.out,bb.out];simpa using ag,by rw[I.out,bb.out];simpa using H,A⟩);case measure=>simp[intOf];omega
   ·(obtain rfl:k=l.length:=by omega);rw[List.take_length]at B H;have cp:(l.filter (zXQ s)).length <=5:=Nat.le_trans (List.length_filter_le _ _) HP.a5;(rename World=>w3);have o:=hid (zC K af);have ai:=hid (M.below af M.lt);have a7:=hid (zOE (Z:=λb=>b<w3.heap.size) (w:=w3) B (H.imp λcs f hf=>zBs.mono (zBs.keep hf (.of_below_lt o λb _ i=>HZ b i)) λb i=>Nat.lt_of_lt_of_le (HZ b i) o.size) (by omega) (λb i=>(B.lt b i).2));obtain⟨RA,y,a2,-,-,-⟩:=Row.of_own B (by decide);subst a2;clear M K H af B;obtain⟨q0,V,q1,Y,q2,aa,q3,ab,q4,ac,q5,ad,ql⟩:=ai.out.d6;(go_wp2_with fail);refine(zFO (λb=>b<w3.heap.size) _ _ _ _ _ _ l (l.filter (zXQ s)) s w3 (zn.mono (ao _ o) λb i=>Nat.lt_of_lt_of_le (HZ b i) o.size) a7 ((av _ o).mono λb i=>Nat.lt_of_lt_of_le (HZ b i) o.size) (λb i=>i) (λm hm=>by have:=HP.fa m hm;omega) (λm hm=>by have:=HP.fa m (List.mem_filter.1 hm).1;omega) (bd _ o)).mono ?_;rintro e w4 ⟨vc,p,q,r,t,rfl,bn,a3,a4,ay⟩;obtain⟨C1,C2,rfl,-⟩:=bn.form;obtain⟨P1,P2,rfl,-⟩:=a3.at_.1.form;obtain⟨P3,P4,rfl,-⟩:=a3.at_.2.form;obtain⟨P5,P6,rfl,-⟩:=a4.at_.1.form;obtain⟨P7,P8,rfl,-⟩:=a4.at_.2.form;clear bn a3 a4;have bf:=hid (zC o ay);have C:=hid (ai.below ay ai.lt);obtain⟨X,hX⟩:∃X,zAO l (l.filter (zXQ s)) s=X:=⟨_,rfl⟩;rw[hX];obtain⟨x,is,er⟩:=X;obtain⟨rfl,bo⟩:=zW8 hX;have b0:=hid bo;clear ay ai o a7 q0 q1 q2 q3 q4 q5 V Y aa ab ac ad ql hX bo;simp only[zKX];(go_upto_region 14 with(refine zN rfl 38 _ _ rfl rfl rfl (Blk.new _ _ _) rfl (by kernel_rfl) (by simp[Value.oneCell']) ?_;intro w5 b7 bq ca));have az:Below w4.heap.size w4 w5:=(zG w4 _).trans (z8 (bq.mono λb _(i:b<w4.heap.size)=>by omega) (by simp));have D:=hid (zC bf az);have bg:=hid (C.below az C.lt);clear b7 bq ca az C bf;obtain⟨q0,V,q1,Y,q2,aa,q3,ab,q4,ac,q5,ad,ql⟩:=bg.out.d6;(go_wp2_with fail);refine(zIL (λb=>b<w5.heap.size) _ _ _ _ _ l s w5 (zn.mono (ao _ D) λb i=>Nat.lt_of_lt_of_le (HZ b i) D.size) ((av _ D).mono λb i=>Nat.lt_of_lt_of_le (HZ b i) D.size) (λb i=>i) (λm hm=>by have:=HP.fa m hm;omega)).mono ?_;rintro e w6 ⟨vv,rfl,⟨s1,s2,rfl,h1,h2⟩,bj⟩;obtain⟨F1,cf,rfl,-⟩:=h1.form;obtain⟨F2,cg,rfl,-⟩:=h2.form;have b5:=hid (zC D bj);clear h1 h2 bj bg D q0 q1 q2 q3 q4 q5 V Y aa ab ac ad ql;generalize zP l s=DS at*;(go_upto_region 15 with(refine zN rfl 36 _ _ rfl rfl rfl (Blk.new _ _ _) rfl (by kernel_rfl) (by simp[Value.oneCell']) ?_;intro w7 ch br cq));have bu:Below w.heap.size w w6:=b5.out;rcases b0.out with rfl|⟨h0,rfl⟩
    ·(go_wp2_with fail);go_ret;exact⟨by simp,zC bu ((zG w6 _).trans (z8 (br.mono λb _(i:b<w6.heap.size)=>by omega) (by simp)))⟩
    ·rw[h0];(go_wp2_with fail);go_ret;exact⟨by simp,zC bu ((zG w6 _).trans (z8 (br.mono λb _(i:b<w6.heap.size)=>by omega) (by simp)))⟩
end
section
open Go.ChangeShapes Go.WideShapes Go.ChangeAt
theorem zUv(os:Os)(c:os.Started)(H:Type)(enc:TypeId × Value->H):
  ReturnsInHanded {} Tryz.checked os 8 .any (λw args=>(Rows.equalOthersSpec.pre enc prog Tryz.f8 [] false w args/\laidMetH prog zJW w)/\sizedMet enc prog Tryz.f8 (OpenSpec.ofChange Rows.equalOthersSpec) false w args)
   (Rows.equalOthersSpec.post enc prog Tryz.f8 false true false false):=by
 refine returnsInHanded_of_change_and (C:=Tryz.checked) (X:=λw _=>laidMetH prog zJW w) (λ_ _ _ J h=>h.of_heap J) own c (by kernel_rfl) func8
  (ChangeSpec.witness_shaped (enc:=enc) (C:=Tryz.checked) (os:=os) (X:=λw _=>laidMetH prog zJW w) false (World.doorLaid prog 62 os) #[.slice none 0 0,.agg #[.slice none 0 0,.slice none 0 0,.slice none 0 0,.slice none 0 0,.int .i64 0,.int .i64 0]] 8 rfl (World.shaped_of_RefB (by kernel_rfl) (by kernel_rfl)) (by kernel_rfl) (by kernel_rfl) (by kernel_rfl) (zSa os _)) ?_
 intro W i args u D n b x _ d G _;have a:∀(j:Nat) t v,Tryz.f8.params[j]? =some t->args[j]? =some v->Value.okWide prog W .any i t v:=b;have m:=x;obtain⟨p,q,k,I,rfl,-,-⟩:=x;have o:DataW.TrodAll enc prog W 0 (λ_=>true) true Tryz.f8.params.toList args.toList u p:=k;have g:(DataW.weightsEach prog (Tryz.f8.params.toList++Rows.equalOthersSpec.plain.varTypes prog) (u++D)).all (· <=reachBytes)=true:=d;clear k d b;obtain⟨rfl,rfl⟩:=trodVars_none I;simp only[List.append_nil]at m;have s:=o;rw[params8]at o a g;obtain⟨O,Q,T,A,V,Z,f,rfl,rfl,E,L⟩:=trodAll_cons o;obtain⟨P,R,U,B,Y,q1,rfl,rfl,rfl,F,M⟩:=trodAll_cons L;obtain⟨rfl,rfl,rfl⟩:=trodAll_nil M;obtain rfl:args=#[O,P]:=by simpa using congrArg List.toArray f
 obtain⟨K,y⟩:=zSx (a 0 22 _ rfl rfl) E (zRZ g (j:=0) rfl rfl);obtain⟨vd,va,vz,vc,N,rfl,z⟩:=zRm (a 1 30 _ rfl rfl) F (zRZ g (j:=1) rfl rfl);refine(zWK (zCf W) _ _ _ _ _ K N W y z (λ_ h=>h) (zOb G)).mono λe W' ⟨he,hb⟩=> ?_
 subst he;exact⟨_,rfl,zSb m s rfl rfl (by kernel_rfl) (by kernel_rfl) hb⟩
theorem zVK:(Rows.equalOthersRow.inPlace==prog.inPlace 8)=true:=by kernel_rfl
theorem zUw:(Rows.equalOthersRow.unfollowed==prog.unfollowed 8)=true:=by kernel_rfl
theorem zUx:(Rows.equalOthersRow.recurses==prog.recurses 8)=true:=by kernel_rfl
theorem zVL:(Rows.equalOthersRow.named==prog.varsNamed 8)=true:=by kernel_rfl
theorem zVM:joinedFacts prog 8 Tryz.f8 Rows.equalOthersSpec Rows.equalOthersRow=true:=
 zN6 (by kernel_rfl) laidOut zTi (by kernel_rfl) (by kernel_rfl) rfl zTj rfl zTk zVK zUw zUx zVL (by kernel_rfl) (by kernel_rfl) (by kernel_rfl) (by kernel_rfl) (by kernel_rfl) rfl (by kernel_rfl) (by kernel_rfl) (by kernel_rfl)
  zUH rfl zTl zTm zTn zUI rfl (by kernel_rfl) (by kernel_rfl) (by kernel_rfl)
theorem zVN:Rows.EqualOthersSaid:=
 OpenClaim.holds_of_wide 8 Tryz.f8 rfl rfl rfl rfl rfl rfl rfl ⟨rfl,rfl,rfl,rfl,rfl⟩ rfl rfl rfl rfl rfl (by kernel_rfl) func8 zVM
  (of_decide_eq_true (by kernel_rfl)) (by unfold Func.isWrapper;rw[if_neg (of_decide_eq_false (by kernel_rfl))];exact⟨rfl,rfl⟩)
  (λc a H b _=>zUv c a H b)
theorem zVq:Rows.equalOthersRow.wfByText (OpenSpec.ofChange Rows.equalOthersSpec)=true:=by kernel_rfl
theorem zVr:prog.funcNamed "customhouse/customhouselaw33.EqualOthers" =some 8:=by kernel_rfl
theorem zVO:([22,30].all λu=> !prog.wantsStandIn u)=true:=by kernel_rfl
theorem zV5:false=Rows.equalOthersRow.goesBy Tryz.pinned.checked.prog:=by kernel_rfl
theorem equalothers_card:Rows.EqualOthersCardSaid:=
 Claim7.holds_tied_plain_at .later [] [.data,.data,.data,.sentinel,.sentinel] true (true,"b7c691893ac5ffd63a8a77a1c3b8b90599a3d2dc70d51f5bf9900650e53e98a9") true
  zVN (λ_ h=>by cases h) zVq (λ_ h=>by cases h) equalOthers_row_tie rfl ⟨rfl,rfl⟩ zUJ rfl
  (λf fn hf hfn=>by
   obtain rfl:f=8:=Option.some.inj (zVr.symm.trans hf) |>.symm;obtain rfl:fn=Tryz.f8:=(Option.some.inj (func8.symm.trans hfn)).symm
   exact⟨zTo,λj t ht=>by
    rw[params8]at ht;have hm:t∈[22,30]:=by simpa using Array.mem_of_getElem? ht
    exact(show prog.wantsStandIn t=false by simpa using List.all_eq_true.1 zVO t hm)⟩)
  zV5
end
end Go.Proofs.YtommaegelgilnaaGreatDoor
