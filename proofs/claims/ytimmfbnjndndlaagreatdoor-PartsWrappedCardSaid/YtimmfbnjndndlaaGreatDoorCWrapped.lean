/- PartsWrapped: for every tariff, products, rates, base currency, Id, day and two numbers, whatever they are: the law returns true, and the arguments read behind the call as before it. Conditions: the row's own (the listed variables of Go's library read as its text lays them: the card ties them). -/
import Derived.Test.YtimmfbnjndndlaaGreatDoorM52
import Derived.Test.YtimmfbnjndndlaaGreatDoorCards
import Derived.Test.YtimmfbnjndndlaaGreatDoorTie
import Derived.SevenTiedAt
set_option linter.all false
namespace Go.Proofs.YtimmfbnjndndlaaGreatDoor
open Go.RowKit
set_option maxRecDepth 100000
section
open Go.ChangeShapes Go.WideShapes Go.ChangeAt
theorem partswrapped_lifted(os:Os)(started:os.Started)(H:Type)(enc:TypeId × Value->H):
  ReturnsInHanded {} Tryz.checked os 3 .any (λw args=>(Rows.partsWrappedSpec.pre enc Tryz.prog Tryz.f3 [] false w args∧laidMetH Tryz.prog laid7 w)∧sizedMet enc Tryz.prog Tryz.f3 (OpenSpec.ofChange Rows.partsWrappedSpec) false w args)
   (Rows.partsWrappedSpec.post enc Tryz.prog Tryz.f3 false true false false):=by
 refine returnsInHanded_of_change_and (C:=Tryz.checked) (X:=λw _=>laidMetH Tryz.prog laid7 w) (λ_ _ _ hh h=>h.of_heap hh) own started (by kernel_rfl) Tryz.func3
  (ChangeSpec.witness_shaped (enc:=enc) (C:=Tryz.checked) (os:=os) (X:=λw _=>laidMetH Tryz.prog laid7 w) false (World.laidAll Tryz.prog os laid7) #[.agg #[.slice none 0 0,.slice none 0 0],.slice none 0 0,.slice none 0 0,.string ByteArray.empty,.string ByteArray.empty,.int .i64 0,.int .u16 0,.int .u16 0] 8 (World.laidAll_os _ _ _) (laid_shape7 os) (by kernel_rfl) (by kernel_rfl) (by kernel_rfl) (laid_met7 os _)) ?_
 intro W base args ds gs before hval0 hW _ hsz0 hL _;have hval:∀(j:Nat) t v,Tryz.f3.params[j]? =some t->args[j]? =some v->Value.okWide Tryz.prog W .any base t v:=hval0;have hW':=hW;obtain⟨p,q,hA0,hV,rfl,-,-⟩:=hW;have hA:DataW.TrodAll enc Tryz.prog W 0 (λ_=>true) true Tryz.f3.params.toList args.toList ds p:=hA0;have hsz:(DataW.weightsEach Tryz.prog (Tryz.f3.params.toList++Rows.partsWrappedSpec.plain.varTypes Tryz.prog) (ds++gs)).all (· ≤reachBytes)=true:=hsz0;clear hA0 hsz0 hval0;obtain⟨rfl,rfl⟩:=trodVars_none hV;simp only[List.append_nil]at hW';have hAA:=hA;rw[Tryz.params3]at hA hval hsz;obtain⟨v0,vs0,d0,ds0,p0,q0,hargs,rfl,rfl,h0,r0⟩:=trodAll_cons hA;obtain⟨v1,vs1,d1,ds1,p1,q1,rfl,rfl,rfl,h1,r1⟩:=trodAll_cons r0;obtain⟨v2,vs2,d2,ds2,p2,q2,rfl,rfl,rfl,h2,r2⟩:=trodAll_cons r1;obtain⟨v3,vs3,d3,ds3,p3,q3,rfl,rfl,rfl,h3,r3⟩:=trodAll_cons r2;obtain⟨v4,vs4,d4,ds4,p4,q4,rfl,rfl,rfl,h4,r4⟩:=trodAll_cons r3;obtain⟨v5,vs5,d5,ds5,p5,q5,rfl,rfl,rfl,h5,r5⟩:=trodAll_cons r4;obtain⟨v6,vs6,d6,ds6,p6,q6,rfl,rfl,rfl,h6,r6⟩:=trodAll_cons r5;obtain⟨v7,vs7,d7,ds7,p7,q7,rfl,rfl,rfl,h7,r7⟩:=trodAll_cons r6;obtain⟨rfl,rfl,rfl⟩:=trodAll_nil r7;obtain rfl:args=#[v0,v1,v2,v3,v4,v5,v6,v7]:=by simpa using congrArg List.toArray hargs
 obtain⟨x0,y0,t0,rfl,a0⟩:=arg_tar (hval 0 27 _ rfl rfl) h0 (rd_arg hsz (j:=0) rfl rfl);obtain⟨xs1,a1⟩:=arg_prods (hval 1 28 _ rfl rfl) h1 (rd_arg hsz (j:=1) rfl rfl);obtain⟨xs2,a2⟩:=arg_rates (hval 2 29 _ rfl rfl) h2 (rd_arg hsz (j:=2) rfl rfl);obtain⟨s3,rfl,a3⟩:=arg_str (hval 3 9 _ rfl rfl) h3 (rd_arg hsz (j:=3) rfl rfl);obtain⟨s4,rfl,a4⟩:=arg_str (hval 4 9 _ rfl rfl) h4 (rd_arg hsz (j:=4) rfl rfl);obtain⟨n5,rfl,a5⟩:=arg_int (hval 5 3 _ rfl rfl) h5 (rd_arg hsz (j:=5) rfl rfl);obtain⟨n6,rfl,a6⟩:=arg_u16 (hval 6 30 _ rfl rfl) h6 (rd_arg hsz (j:=6) rfl rfl);obtain⟨n7,rfl,a7⟩:=arg_u16 (hval 7 30 _ rfl rfl) h7 (rd_arg hsz (j:=7) rfl rfl);refine(partsWrapped_any (Here W) _ _ _ _ t0 xs1 xs2 s3 s4 n5 W a0 a1 a2 (λ_ h=>h) a3 a4 a5 (tab_of_laid7 hL) n6 n7 a6 a7).mono λe W' ⟨he,hb⟩=> ?_
 subst he;exact⟨_,rfl,law_post hW' hAA rfl rfl (by kernel_rfl) (by kernel_rfl) hb⟩
theorem partswrapped_place:(Rows.partsWrappedRow.inPlace==Tryz.prog.inPlace 3)=true:=by kernel_rfl
theorem partswrapped_follow:(Rows.partsWrappedRow.unfollowed==Tryz.prog.unfollowed 3)=true:=by kernel_rfl
theorem partswrapped_recurs:(Rows.partsWrappedRow.recurses==Tryz.prog.recurses 3)=true:=by kernel_rfl
theorem partswrapped_named:(Rows.partsWrappedRow.named==Tryz.prog.varsNamed 3)=true:=by kernel_rfl
theorem partswrapped_facts:joinedFacts Tryz.prog 3 Tryz.f3 Rows.partsWrappedSpec Rows.partsWrappedRow=true:=
 joined_parts (by kernel_rfl) laidOut p_rowed (by kernel_rfl) (by kernel_rfl) rfl p_stops rfl p_knobs partswrapped_place partswrapped_follow partswrapped_recurs partswrapped_named (by kernel_rfl) (by kernel_rfl) (by kernel_rfl) (by kernel_rfl) (by kernel_rfl) rfl (by kernel_rfl) (by kernel_rfl) (by kernel_rfl)
  p_keys rfl p_heard p_enter p_lifts p_make rfl (by kernel_rfl) (by kernel_rfl) (by kernel_rfl)
theorem partswrapped_holds:Rows.PartsWrappedSaid:=
 OpenClaim.holds_of_wide 3 Tryz.f3 rfl rfl rfl rfl rfl rfl rfl ⟨rfl,rfl,rfl,rfl,rfl⟩ rfl rfl rfl rfl rfl (by kernel_rfl) Tryz.func3 partswrapped_facts
  (of_decide_eq_true (by kernel_rfl)) (by unfold Func.isWrapper;rw[if_neg (of_decide_eq_false (by kernel_rfl))];exact⟨rfl,rfl⟩)
  (λos started H enc _=>partswrapped_lifted os started H enc)
theorem partswrapped_card:Rows.PartsWrappedCardSaid:=
 Claim7.holds_tied_plain_at .later [] [.data,.data,.data,.data,.sentinel,.sentinel,.pinned] true (true,"5452161dd4dd282783d515212c41936d12912d5f58508f5b21acdcc24b9ccf22") true
  partswrapped_holds (λ_ h=>by cases h) (by kernel_rfl) (λ_ h=>by cases h) partsWrapped_row_tie rfl ⟨rfl,rfl⟩ (by kernel_rfl) rfl
  (λf fn hf hfn=>by
   obtain rfl:f=3:=Option.some.inj ((show Tryz.prog.funcNamed "customhouse/customhouselaw28.PartsWrapped" =some 3 by kernel_rfl).symm.trans hf) |>.symm;obtain rfl:fn=Tryz.f3:=(Option.some.inj (Tryz.func3.symm.trans hfn)).symm
   exact⟨by kernel_rfl,λj t ht=>by
    rw[Tryz.params3]at ht;(have hm:t∈[27,28,29,9,9,3,30,30]:=by simpa using Array.mem_of_getElem? ht);have hall:([27,28,29,9,9,3,30,30].all λu=> !Tryz.prog.wantsStandIn u)=true:=by kernel_rfl
    exact(show Tryz.prog.wantsStandIn t=false by simpa using List.all_eq_true.1 hall t hm)⟩)
  (by kernel_rfl)
end
end Go.Proofs.YtimmfbnjndndlaaGreatDoor
