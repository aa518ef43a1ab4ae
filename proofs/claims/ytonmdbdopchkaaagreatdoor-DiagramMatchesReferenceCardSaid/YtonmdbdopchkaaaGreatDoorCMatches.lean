/- DiagramMatchesReference: for every formula, domain, two diagrams and case, whatever they are: the law returns true, and the arguments read behind the call as before it. Conditions: the row's own (the listed variables of Go's library read as its text lays them: the card ties them). -/
import Derived.Test.YtonmdbdopchkaaaGreatDoorM17
import Derived.Test.YtonmdbdopchkaaaGreatDoorM51
import Derived.Test.YtonmdbdopchkaaaGreatDoorCards
import Derived.Test.YtonmdbdopchkaaaGreatDoorTie
import Derived.SevenTiedAt
set_option linter.all false
namespace Go.Proofs.YtonmdbdopchkaaaGreatDoor
open Go.RowKit
set_option maxRecDepth 100000
section
open Go.ChangeShapes Go.WideShapes Go.ChangeAt
theorem zL2(os:Os)(started:os.Started)(H:Type)(enc:TypeId × Value->H):
  ReturnsInHanded {} Tryz.checked os 3 .any (λw args=>(Rows.diagramMatchesReferenceSpec.pre enc Tryz.prog Tryz.f3 [] false w args∧laidMetH Tryz.prog zJN w)∧sizedMet enc Tryz.prog Tryz.f3 (OpenSpec.ofChange Rows.diagramMatchesReferenceSpec) false w args)
   (Rows.diagramMatchesReferenceSpec.post enc Tryz.prog Tryz.f3 false true false false):=by
 refine returnsInHanded_of_change_and (C:=Tryz.checked) (X:=λw _=>laidMetH Tryz.prog zJN w) (λ_ _ _ hh h=>h.of_heap hh) own started (by kernel_rfl) Tryz.func3
  (ChangeSpec.witness_shaped (enc:=enc) (C:=Tryz.checked) (os:=os) (X:=λw _=>laidMetH Tryz.prog zJN w) false (World.doorLaid Tryz.prog 62 os) #[.agg #[.int .i64 0,.string ByteArray.empty,.int .i64 0,.int .i64 0,.slice none 0 0],.agg #[.slice none 0 0],.agg #[.slice none 0 0],.agg #[.slice none 0 0],.slice none 0 0] 8 rfl (World.shaped_of_RefB (by kernel_rfl) (by kernel_rfl)) (by kernel_rfl) (by kernel_rfl) (by kernel_rfl) (zSl os _)) ?_
 intro W base args ds gs before hval0 hW _ hsz0 hL _;have hval:∀(j:Nat) t v,Tryz.f3.params[j]? =some t->args[j]? =some v->Value.okWide Tryz.prog W .any base t v:=hval0;have hW':=hW;obtain⟨p,q,hA0,hV,rfl,-,-⟩:=hW;have hA:DataW.TrodAll enc Tryz.prog W 0 (λ_=>true) true Tryz.f3.params.toList args.toList ds p:=hA0;have hsz:(DataW.weightsEach Tryz.prog (Tryz.f3.params.toList++Rows.diagramMatchesReferenceSpec.plain.varTypes Tryz.prog) (ds++gs)).all (· ≤reachBytes)=true:=hsz0;clear hA0 hsz0 hval0;obtain⟨rfl,rfl⟩:=trodVars_none hV;simp only[List.append_nil]at hW';have hAA:=hA;rw[Tryz.params3]at hA hval hsz;obtain⟨v0,vs0,d0,ds0,p0,q0,hargs,rfl,rfl,h0,r0⟩:=trodAll_cons hA;obtain⟨v1,vs1,d1,ds1,p1,q1,rfl,rfl,rfl,h1,r1⟩:=trodAll_cons r0;obtain⟨v2,vs2,d2,ds2,p2,q2,rfl,rfl,rfl,h2,r2⟩:=trodAll_cons r1;obtain⟨v3,vs3,d3,ds3,p3,q3,rfl,rfl,rfl,h3,r3⟩:=trodAll_cons r2;obtain⟨v4,vs4,d4,ds4,p4,q4,rfl,rfl,rfl,h4,r4⟩:=trodAll_cons r3;obtain⟨rfl,rfl,rfl⟩:=trodAll_nil r4;obtain rfl:args=#[v0,v1,v2,v3,v4]:=by simpa using congrArg List.toArray hargs
 obtain⟨f0,cs0,rfl,a0⟩:=zUa (hval 0 24 _ rfl rfl) h0 (zIJ hsz (j:=0) rfl rfl);obtain⟨x1,xs1,rfl,a1⟩:=zUC (hval 1 27 _ rfl rfl) h1 (zIJ hsz (j:=1) rfl rfl);obtain⟨x2,xs2,rfl,a2⟩:=zPc (hval 2 30 _ rfl rfl) h2 (zIJ hsz (j:=2) rfl rfl);obtain⟨x3,xs3,rfl,a3⟩:=zPc (hval 3 30 _ rfl rfl) h3 (zIJ hsz (j:=3) rfl rfl);obtain⟨xs4,a4⟩:=zSm (hval 4 32 _ rfl rfl) h4 (zIJ hsz (j:=4) rfl rfl);refine(zP3 (zDi W) f0 cs0 x1 x2 x3 v4 xs1 xs2 xs3 xs4 W a0 a1 a2 a3 a4 (λ_ h=>h) (zPA hL)).mono λe W' ⟨he,hb⟩=> ?_
 subst he;exact⟨_,rfl,zSn hW' hAA rfl rfl (by kernel_rfl) (by kernel_rfl) hb⟩
theorem zNI:Rows.DiagramMatchesReferenceSaid:=
 OpenClaim.holds_of_wide 3 Tryz.f3 rfl rfl rfl rfl rfl rfl rfl ⟨rfl,rfl,rfl,rfl,rfl⟩ rfl rfl rfl rfl rfl (by kernel_rfl) Tryz.func3 (by kernel_rfl)
  (of_decide_eq_true (by kernel_rfl)) (by unfold Func.isWrapper;rw[if_neg (of_decide_eq_false (by kernel_rfl))];exact⟨rfl,rfl⟩)
  (λos started H enc _=>zL2 os started H enc)
theorem matches_card:Rows.DiagramMatchesReferenceCardSaid:=
 Claim7.holds_tied_plain_at .later [] [.data,.data,.data,.sentinel,.sentinel] true (true,"6d07bb31f24f463ea83b747315759bd421efc6321bbac119f33ae2fe324b630f") true
  zNI (λ_ h=>by cases h) (by kernel_rfl) (λ_ h=>by cases h) diagramMatchesReference_row_tie rfl ⟨rfl,rfl⟩ (by kernel_rfl) rfl
  (λf fn hf hfn=>by
   obtain rfl:f=3:=Option.some.inj ((show Tryz.prog.funcNamed "customhouse/customhouselaw26.DiagramMatchesReference" =some 3 by kernel_rfl).symm.trans hf) |>.symm;obtain rfl:fn=Tryz.f3:=(Option.some.inj (Tryz.func3.symm.trans hfn)).symm
   exact⟨by kernel_rfl,λj t ht=>by
    rw[Tryz.params3]at ht;(have hm:t∈[24,27,30,30,32]:=by simpa using Array.mem_of_getElem? ht);have hall:([24,27,30,30,32].all λu=> !Tryz.prog.wantsStandIn u)=true:=by kernel_rfl
    exact(show Tryz.prog.wantsStandIn t=false by simpa using List.all_eq_true.1 hall t hm)⟩)
  (by kernel_rfl)
end
end Go.Proofs.YtonmdbdopchkaaaGreatDoor
