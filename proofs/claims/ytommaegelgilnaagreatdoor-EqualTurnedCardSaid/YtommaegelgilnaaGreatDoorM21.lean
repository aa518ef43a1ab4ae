/- Lemmas. -/
import Derived.Test.YtommaegelgilnaaGreatDoorM17
import Derived.Test.YtommaegelgilnaaGreatDoorRows
import Derived.LaidMore
import Derived.Stop.Joined
import Derived.LaidSub
set_option linter.all false
namespace Go.Proofs.YtommaegelgilnaaGreatDoor
open Go.RowKit Go.Proofs.Tryz
set_option maxRecDepth 100000
section
open Go.ChangeShapes Go.WideShapes Go.ChangeAt
theorem own:ownKnob prog.godebug=none:=by kernel_rfl
theorem laidOut:laidOutB prog=true:=by kernel_rfl
theorem tys:Tys prog 3 9 4 33 106 23 123 72 52 50 where
 int:=underlying3
 intc:=by kernel_rfl
 intb:=by kernel_rfl
 str:=underlying9
 strc:=by kernel_rfl
 bool:=underlying4
 boolc:=by kernel_rfl
 ints:=underlying33
 intsc:=by kernel_rfl
 fact:=⟨_,_,_,_,underlying106,⟨rfl,rfl⟩,⟨rfl,rfl⟩,⟨rfl,rfl⟩,rfl,rfl⟩
 factc:=by kernel_rfl
 factb:=by kernel_rfl
 facts:=underlying23
 factsc:=by kernel_rfl
 node:=⟨_,_,_,_,underlying123,⟨rfl,rfl⟩,⟨rfl,rfl⟩,⟨rfl,rfl⟩,rfl,rfl⟩
 nodec:=by kernel_rfl
 nodeb:=by kernel_rfl
 nodes:=underlying72
 nodesc:=by kernel_rfl
 fm:=⟨_,_,_,_,_,underlying52,⟨rfl,rfl⟩,⟨rfl,rfl⟩,⟨rfl,rfl⟩,⟨rfl,rfl⟩,rfl,rfl⟩
 fmc:=by kernel_rfl
 fmb:=by kernel_rfl
 fms:=underlying50
 fmsc:=by kernel_rfl
abbrev zJW:List (String × DataW Unit):=[("math/bits.deBruijn32tab",Rows.laid_math_bits_deBruijn32tab),("math/bits.deBruijn64tab",Rows.laid_math_bits_deBruijn64tab),("internal/strconv.uint64pow10",Rows.laid_internal_strconv_uint64pow10),("strconv.ErrRange",Rows.laid_strconv_ErrRange),("strconv.ErrSyntax",Rows.laid_strconv_ErrSyntax)]
theorem zSa(os:Os)(args:Array Value):laidMetH prog zJW ((World.doorLaid prog 62 os).forCall (λ_ _=>0) ⟨#[],args,[]⟩).memory :=
 laidMetH_of_parts3 (fuel:=8) (laidMet_of_run' 8 (by kernel_rfl) (by kernel_rfl)) (by kernel_rfl) (by kernel_rfl)
theorem zOb{W:World}(h:laidMetH prog zJW W):zBr W.heap.size W:=by
 rw[MakeChecks.laidMetH_plain _ _ _ (by kernel_rfl)]at h;have h1:=laidMet.filter (λx=>x.1== "internal/strconv.uint64pow10") h;have e:zJW.filter (λx=>x.1== "internal/strconv.uint64pow10")=[("internal/strconv.uint64pow10",Lib.tabData .u64 Lib.pow10Tab)]:=by rfl
 rw[e]at h1;exact Lib.tabBelow_of_tabIs (Lib.tabIs_of_head (g:=3) (t:=316) (e:=172) (n:=20) (by kernel_rfl) (by kernel_rfl) underlying316 underlying172 (by kernel_rfl) (by kernel_rfl) h1)
section args
variable {H:Type} {enc:TypeId × Value->H} {W:World} {v:Value} {d:DataW H} {ps:List MemPlace} {base:Nat}
theorem zRZ{a:List TypeId}{ds:List (DataW H)}(h:(DataW.weightsEach prog a ds).all (· <=reachBytes)=true){j:Nat}{t:TypeId}{d:DataW H}(e:a[j]? =some t)(b:ds[j]? =some d):zBb prog t d:=
 List.all_eq_true.2 λn c=>List.all_eq_true.1 h n (DataW.weights_mem_each e b n c)
end args
theorem zIY{H:Type}{enc:TypeId × Value->H}{W g:World}(i:Bw W g):∀{a:List TypeId}{f:List Value}{ds:List (DataW H)}{p:List MemPlace},(∀t∈a,prog.readableRec t=true/\t<prog.types.size)->
  DataW.TrodAll enc prog W 0 (λ_=>true) true a f ds p->(∀x∈p,x.block<W.heap.size)->DataW.TrodAll enc prog g 0 (λb=>decide (b<W.heap.size)) true a f ds p
 |[],[],[],_,_,h,_=>h
 |t::a,v::f,d::ds,_,hr,⟨p,q,h1,h2,e⟩,hl=>by
  subst e;exact⟨p,q,Below.trod laidOut (hr t (by simp)).1 (hr t (by simp)).2 h1 i (λx c=>hl x (by simp[c])),zIY i (λt j=>hr t (by simp[j])) h2 (λx c=>hl x (by simp[c])),rfl⟩
theorem zSb{H:Type}{enc:TypeId × Value->H}{b:Func}{s:ChangeSpec}{W d:World}{args:Array Value}{ds:List (DataW H)}{p:List MemPlace}(e:DataW.Whole enc prog b.params.toList s.vars false W args.toList ds [] p)
  (g:DataW.TrodAll enc prog W 0 (λ_=>true) true b.params.toList args.toList ds p)(a:s.fn H (ds++[])={results:=[.lit (.bool true)],args:=ds})(k:s.vars=[])(i:b.params.toList.all (λt=>prog.readableRec t&&decide (t<prog.types.size))=true)
  (c:b.resultTypes=#[4])(f:Bw W d):s.post enc prog b false true false false W args (.bool true) d:=by
 refine⟨ds,[],p,[],p,[],e,?_,?_,?_,f.frame _,λh=>by cases h⟩
 ·rw[a,c];exact trodAll_mk1 (shut_bool underlying4 true)
 ·rw[a];exact zIY f (λt j=>by have:=List.all_eq_true.1 i t j;simpa using this) g e.lt
 rw[a,k];rfl
end
end Go.Proofs.YtommaegelgilnaaGreatDoor
