/- Texts R0. -/
import Derived.Test.YtimmfbnjndndlaaGreatDoorM11
import Derived.Test.YtimmfbnjndndlaaGreatDoorM22
import Derived.Test.YtimmfbnjndndlaaGreatDoorRows
import Derived.ProofKit
import Derived.LaidMore
import Derived.Stop.Joined
import Derived.Lib.LaidTab
import Derived.LaidSub
set_option linter.all false
namespace Go.Proofs.YtimmfbnjndndlaaGreatDoor
open Go.RowKit
set_option maxRecDepth 100000
section
open Go.ChangeShapes Go.WideShapes Go.ChangeAt
theorem own:ownKnob Tryz.prog.godebug=none:=by kernel_rfl
theorem laidOut:laidOutB Tryz.prog=true:=by kernel_rfl
abbrev laid5:List (String × DataW Unit):=[("math/bits.deBruijn32tab",Rows.laid_math_bits_deBruijn32tab),("math/bits.deBruijn64tab",Rows.laid_math_bits_deBruijn64tab),("internal/strconv.uint64pow10",Rows.laid_internal_strconv_uint64pow10),("strconv.ErrRange",Rows.laid_strconv_ErrRange),("strconv.ErrSyntax",Rows.laid_strconv_ErrSyntax)]
theorem door_met(os:Os)(args:Array Value):laidMetH Tryz.prog laid5 ((World.doorLaid Tryz.prog 62 os).forCall (λ_ _=>0) ⟨#[],args,[]⟩).memory :=
 laidMetH_of_parts3 (fuel:=8) (laidMet_of_run' 8 (by kernel_rfl) (by kernel_rfl)) (by kernel_rfl) (by kernel_rfl)
theorem tab_of_laid{W:World}(h:laidMetH Tryz.prog laid5 W):TabB W.heap.size W:=by
 rw[MakeChecks.laidMetH_plain _ _ _ (by kernel_rfl)]at h;have h1:=laidMet.filter (λx=>x.1== "internal/strconv.uint64pow10") h;have e:laid5.filter (λx=>x.1== "internal/strconv.uint64pow10")=[("internal/strconv.uint64pow10",Lib.tabData .u64 Lib.pow10Tab)]:=by rfl
 rw[e]at h1;exact Lib.tabBelow_of_tabIs (Lib.tabIs_of_head (g:=2) (t:=243) (e:=184) (n:=20) (by kernel_rfl) (by kernel_rfl) Tryz.underlying243 Tryz.underlying184 (by kernel_rfl) (by kernel_rfl) h1)
section args
variable {H:Type} {enc:TypeId × Value->H} {W:World} {v:Value} {d:DataW H} {ps:List MemPlace} {base:Nat}
theorem rd_arg{ts:List TypeId}{ds:List (DataW H)}(h:(DataW.weightsEach Tryz.prog ts ds).all (· ≤reachBytes)=true){j:Nat}{t:TypeId}{d:DataW H}(ht:ts[j]? =some t)(hd:ds[j]? =some d):RdFits Tryz.prog t d:=
 List.all_eq_true.2 λn hn=>List.all_eq_true.1 h n (DataW.weights_mem_each ht hd n hn)
theorem rd_one_field{t:TypeId}{f0:Field}(hu:Tryz.prog.underlying t=some (.struct #[f0]))(ho:f0.offset=0)(hc:Tryz.prog.cellsOf t=1)(hc0:Tryz.prog.cellsOf f0.type=1)(hv:Value.okWide Tryz.prog W .any base t v)(ht:DataW.Trod enc Tryz.prog W 0 (λ_=>true) true t v d ps)(hw:RdFits Tryz.prog t d):
  ∃vd m y,v= .agg #[vd]∧DataW.trod enc Tryz.prog W 0 (λ_=>true) true m f0.type [vd]=some y∧RdFits Tryz.prog f0.type y.1:=by
 obtain⟨cs,rfl,hsz⟩:=okWide_struct hu hv;obtain⟨fuel,hf⟩:=ht;obtain⟨-,hp⟩:=op_field hu hf hw;obtain⟨l⟩:=cs;rw[hc]at hsz
 match l,hsz with
 |[c],_=>
  obtain⟨m,y,-,q,w⟩:=hp 0 f0 rfl;rw[ho,hc0]at q;exact⟨c,m,y,rfl,q,w⟩
theorem arg_case(hv:Value.okWide Tryz.prog W .any base 39 v)(ht:DataW.Trod enc Tryz.prog W 0 (λ_=>true) true 39 v d ps)(hw:RdFits Tryz.prog 39 d):∃xs,Ints (Here W) W v xs:=by
 obtain⟨A,n,c,rfl⟩:=okWide_slice Tryz.underlying39 hv;obtain⟨fuel,hf⟩:=ht;obtain⟨v',xs,e,h⟩:=op_ints Tryz.underlying39 Tryz.underlying3 (by kernel_rfl) (by kernel_rfl) hf hw;obtain rfl:Value.slice A n c=v':=by simpa[Value.cells]using e
 exact⟨xs,h⟩
end args
theorem trodAll_below{H:Type}{enc:TypeId × Value->H}{W W':World}(hb:Below W.heap.size W W'):∀{ts:List TypeId}{vs:List Value}{ds:List (DataW H)}{p:List MemPlace},(∀t∈ts,Tryz.prog.readableRec t=true∧t<Tryz.prog.types.size)->
  DataW.TrodAll enc Tryz.prog W 0 (λ_=>true) true ts vs ds p->(∀x∈p,x.block<W.heap.size)->DataW.TrodAll enc Tryz.prog W' 0 (λb=>decide (b<W.heap.size)) true ts vs ds p
 |[],[],[],_,_,h,_=>h
 |t::ts,v::vs,d::ds,_,hr,⟨p,q,h1,h2,e⟩,hl=>by
  subst e;exact⟨p,q,Below.trod laidOut (hr t (by simp)).1 (hr t (by simp)).2 h1 hb (λx hx=>hl x (by simp[hx])),trodAll_below hb (λt ht=>hr t (by simp[ht])) h2 (λx hx=>hl x (by simp[hx])),rfl⟩
theorem law_post{H:Type}{enc:TypeId × Value->H}{fn:Func}{s:ChangeSpec}{W W':World}{args:Array Value}{ds:List (DataW H)}{p:List MemPlace}(hW:DataW.Whole enc Tryz.prog fn.params.toList s.vars false W args.toList ds [] p)
  (hA:DataW.TrodAll enc Tryz.prog W 0 (λ_=>true) true fn.params.toList args.toList ds p)(hsp:s.fn H (ds++[])={results:=[.lit (.bool true)],args:=ds})(hv:s.vars=[])(hr:fn.params.toList.all (λt=>Tryz.prog.readableRec t&&decide (t<Tryz.prog.types.size))=true)
  (hres:fn.resultTypes=#[4])(hb:Below W.heap.size W W'):s.post enc Tryz.prog fn false true false false W args (.bool true) W':=by
 refine⟨ds,[],p,[],p,[],hW,?_,?_,?_,hb.frame _,λh=>by cases h⟩
 ·rw[hsp,hres];exact trodAll_mk1 (shut_bool Tryz.underlying4 true)
 ·rw[hsp];exact trodAll_below hb (λt ht=>by have:=List.all_eq_true.1 hr t ht;simpa using this) hA hW.lt
 ·rw[hsp,hv];rfl
end
end Go.Proofs.YtimmfbnjndndlaaGreatDoor
