/- Texts R0. -/
import Derived.Test.YtonmdbdopchkaaaGreatDoorM14
import Derived.Test.YtonmdbdopchkaaaGreatDoorRows
import Derived.ProofKit
import Derived.LaidMore
import Derived.Stop.Joined
import Derived.Lib.LaidTab
import Derived.LaidSub
set_option linter.all false
namespace Go.Proofs.YtonmdbdopchkaaaGreatDoor
open Go.RowKit
set_option maxRecDepth 100000
section
open Go.ChangeShapes Go.WideShapes Go.ChangeAt
theorem own:ownKnob Tryz.prog.godebug=none:=by kernel_rfl
theorem laidOut:laidOutB Tryz.prog=true:=by kernel_rfl
theorem tys:Tys Tryz.prog 3 9 4 31 76 25 51 28 24 22 where
 int:=Tryz.underlying3
 intc:=by kernel_rfl
 intb:=by kernel_rfl
 str:=Tryz.underlying9
 strc:=by kernel_rfl
 bool:=Tryz.underlying4
 boolc:=by kernel_rfl
 ints:=Tryz.underlying31
 intsc:=by kernel_rfl
 fact:=⟨_,_,_,_,Tryz.underlying76,⟨rfl,rfl⟩,⟨rfl,rfl⟩,⟨rfl,rfl⟩,rfl,rfl⟩
 factc:=by kernel_rfl
 factb:=by kernel_rfl
 facts:=Tryz.underlying25
 factsc:=by kernel_rfl
 node:=⟨_,_,_,_,Tryz.underlying51,⟨rfl,rfl⟩,⟨rfl,rfl⟩,⟨rfl,rfl⟩,rfl,rfl⟩
 nodec:=by kernel_rfl
 nodeb:=by kernel_rfl
 nodes:=Tryz.underlying28
 nodesc:=by kernel_rfl
 fm:=⟨_,_,_,_,_,Tryz.underlying24,⟨rfl,rfl⟩,⟨rfl,rfl⟩,⟨rfl,rfl⟩,⟨rfl,rfl⟩,rfl,rfl⟩
 fmc:=by kernel_rfl
 fmb:=by kernel_rfl
 fms:=Tryz.underlying22
 fmsc:=by kernel_rfl
abbrev zJN:List (String × DataW Unit):=[("math/bits.deBruijn32tab",Rows.laid_math_bits_deBruijn32tab),("math/bits.deBruijn64tab",Rows.laid_math_bits_deBruijn64tab),("internal/strconv.uint64pow10",Rows.laid_internal_strconv_uint64pow10),("strconv.ErrRange",Rows.laid_strconv_ErrRange),("strconv.ErrSyntax",Rows.laid_strconv_ErrSyntax)]
theorem zSl(os:Os)(args:Array Value):laidMetH Tryz.prog zJN ((World.doorLaid Tryz.prog 62 os).forCall (λ_ _=>0) ⟨#[],args,[]⟩).memory :=
 laidMetH_of_parts3 (fuel:=8) (laidMet_of_run' 8 (by kernel_rfl) (by kernel_rfl)) (by kernel_rfl) (by kernel_rfl)
theorem zPA{W:World}(h:laidMetH Tryz.prog zJN W):zBJ W.heap.size W:=by
 rw[MakeChecks.laidMetH_plain _ _ _ (by kernel_rfl)]at h;have h1:=laidMet.filter (λx=>x.1== "internal/strconv.uint64pow10") h;have e:zJN.filter (λx=>x.1== "internal/strconv.uint64pow10")=[("internal/strconv.uint64pow10",Lib.tabData .u64 Lib.pow10Tab)]:=by rfl
 rw[e]at h1;exact Lib.tabBelow_of_tabIs (Lib.tabIs_of_head (g:=0) (t:=184) (e:=155) (n:=20) (by kernel_rfl) (by kernel_rfl) Tryz.underlying184 Tryz.underlying155 (by kernel_rfl) (by kernel_rfl) h1)
section args
variable {H:Type} {enc:TypeId × Value->H} {W:World} {v:Value} {d:DataW H} {ps:List MemPlace} {base:Nat}
theorem zIJ{ts:List TypeId}{ds:List (DataW H)}(h:(DataW.weightsEach Tryz.prog ts ds).all (· ≤reachBytes)=true){j:Nat}{t:TypeId}{d:DataW H}(ht:ts[j]? =some t)(hd:ds[j]? =some d):zBI Tryz.prog t d:=
 List.all_eq_true.2 λn hn=>List.all_eq_true.1 h n (DataW.weights_mem_each ht hd n hn)
theorem zUa(hv:Value.okWide Tryz.prog W .any base 24 v)(ht:DataW.Trod enc Tryz.prog W 0 (λ_=>true) true 24 v d ps)(hw:zBI Tryz.prog 24 d):∃f cs,v= .agg cs.toArray∧FmR (zDi W) W f cs:=by
 obtain⟨cs,rfl,hsz⟩:=okWide_struct Tryz.underlying24 hv;obtain⟨fuel,hf⟩:=ht;obtain⟨f,h⟩:=zVi tys fuel cs.toList _ (by rw[Array.length_toList,hsz,tys.fmc]) hf hw;exact⟨f,cs.toList,by simp,h⟩
theorem zIK{t:TypeId}{f0:Field}(hu:Tryz.prog.underlying t=some (.struct #[f0]))(ho:f0.offset=0)(hc:Tryz.prog.cellsOf t=1)(hc0:Tryz.prog.cellsOf f0.type=1)(hv:Value.okWide Tryz.prog W .any base t v)(ht:DataW.Trod enc Tryz.prog W 0 (λ_=>true) true t v d ps)(hw:zBI Tryz.prog t d):
  ∃vd m y,v= .agg #[vd]∧DataW.trod enc Tryz.prog W 0 (λ_=>true) true m f0.type [vd]=some y∧zBI Tryz.prog f0.type y.1:=by
 obtain⟨cs,rfl,hsz⟩:=okWide_struct hu hv;obtain⟨fuel,hf⟩:=ht;obtain⟨-,hp⟩:=zHi hu hf hw;obtain⟨l⟩:=cs;rw[hc]at hsz
 match l,hsz with
 |[c],_=>
  obtain⟨m,y,-,q,w⟩:=hp 0 f0 rfl;rw[ho,hc0]at q;exact⟨c,m,y,rfl,q,w⟩
theorem zUC(hv:Value.okWide Tryz.prog W .any base 27 v)(ht:DataW.Trod enc Tryz.prog W 0 (λ_=>true) true 27 v d ps)(hw:zBI Tryz.prog 27 d):∃vd ds,v= .agg #[vd]∧Facts (zDi W) W vd ds:=by
 obtain⟨vd,m,y,rfl,q,w⟩:=zIK Tryz.underlying27 rfl (by kernel_rfl) (by kernel_rfl) hv ht hw;obtain⟨ds,h⟩:=zTW tys q w;exact⟨vd,ds,rfl,h⟩
theorem zPc(hv:Value.okWide Tryz.prog W .any base 30 v)(ht:DataW.Trod enc Tryz.prog W 0 (λ_=>true) true 30 v d ps)(hw:zBI Tryz.prog 30 d):∃vn ns,v= .agg #[vn]∧zO (zDi W) W vn ns:=by
 obtain⟨vd,m,y,rfl,q,w⟩:=zIK Tryz.underlying30 rfl (by kernel_rfl) (by kernel_rfl) hv ht hw;obtain⟨ns,h⟩:=zTX tys q w;exact⟨vd,ns,rfl,h⟩
theorem zSm(hv:Value.okWide Tryz.prog W .any base 32 v)(ht:DataW.Trod enc Tryz.prog W 0 (λ_=>true) true 32 v d ps)(hw:zBI Tryz.prog 32 d):∃xs,zL (zDi W) W v xs:=by
 obtain⟨A,n,c,rfl⟩:=okWide_slice Tryz.underlying32 hv;obtain⟨fuel,hf⟩:=ht;obtain⟨v',xs,e,h⟩:=zPp Tryz.underlying32 tys.int tys.intc tys.intb hf hw;obtain rfl:Value.slice A n c=v':=by simpa[Value.cells]using e
 exact⟨xs,h⟩
end args
theorem zHq{H:Type}{enc:TypeId × Value->H}{W W':World}(hb:Below W.heap.size W W'):∀{ts:List TypeId}{vs:List Value}{ds:List (DataW H)}{p:List MemPlace},(∀t∈ts,Tryz.prog.readableRec t=true∧t<Tryz.prog.types.size)->
  DataW.TrodAll enc Tryz.prog W 0 (λ_=>true) true ts vs ds p->(∀x∈p,x.block<W.heap.size)->DataW.TrodAll enc Tryz.prog W' 0 (λb=>decide (b<W.heap.size)) true ts vs ds p
 |[],[],[],_,_,h,_=>h
 |t::ts,v::vs,d::ds,_,hr,⟨p,q,h1,h2,e⟩,hl=>by
  subst e;exact⟨p,q,Below.trod laidOut (hr t (by simp)).1 (hr t (by simp)).2 h1 hb (λx hx=>hl x (by simp[hx])),zHq hb (λt ht=>hr t (by simp[ht])) h2 (λx hx=>hl x (by simp[hx])),rfl⟩
theorem zSn{H:Type}{enc:TypeId × Value->H}{fn:Func}{s:ChangeSpec}{W W':World}{args:Array Value}{ds:List (DataW H)}{p:List MemPlace}(hW:DataW.Whole enc Tryz.prog fn.params.toList s.vars false W args.toList ds [] p)
  (hA:DataW.TrodAll enc Tryz.prog W 0 (λ_=>true) true fn.params.toList args.toList ds p)(hsp:s.fn H (ds++[])={results:=[.lit (.bool true)],args:=ds})(hv:s.vars=[])(hr:fn.params.toList.all (λt=>Tryz.prog.readableRec t&&decide (t<Tryz.prog.types.size))=true)
  (hres:fn.resultTypes=#[4])(hb:Below W.heap.size W W'):s.post enc Tryz.prog fn false true false false W args (.bool true) W':=by
 refine⟨ds,[],p,[],p,[],hW,?_,?_,?_,hb.frame _,λh=>by cases h⟩
 ·rw[hsp,hres];exact trodAll_mk1 (shut_bool Tryz.underlying4 true)
 ·rw[hsp];exact zHq hb (λt ht=>by have:=List.all_eq_true.1 hr t ht;simpa using this) hA hW.lt
 ·rw[hsp,hv];rfl
end
end Go.Proofs.YtonmdbdopchkaaaGreatDoor
