/- Texts G. -/
import Derived.Test.YtimmfbnjndndlaaGreatDoorM3
set_option linter.all false
namespace Go.Proofs.YtimmfbnjndndlaaGreatDoor
open Go.RowKit
theorem ret_int{k:IntKind}{a b:Int}(h:a=b):Ending.returned (.int k a)= .returned (.int k b):=by rw[h]
theorem ret_bool{a b:Bool}(h:a=b):Ending.returned (.bool a)= .returned (.bool b):=by rw[h]
def gv(g:Bool)(v:Value):Value:=if g then v else undef
theorem gv_true(v:Value):gv true v=v:=rfl
theorem gv_false(v:Value):gv false v=undef:=rfl
theorem gv_gv(g:Bool)(v:Value):gv g (gv g v)=gv g v:=by cases g<;>rfl
def wantB(v:Value)(want:Bool):Bool:=match v with| .bool b=>b==want| _=>false
theorem wanted_of{o:Oper}{ops:Array Oper}{a:Act}{j:Nat}{want:Bool}(hg:o.guard=some (j,want)){d:Tmp}{v:Value}
  (hd:(ops[j]?).bind (·.dst)=some d)(hv:a.tmps[d]? =some v):Region.wanted o (yielded ops a.tmps)=wantB v want:=by
 unfold Region.wanted yielded;simp only[hg,hd,Option.bind_some,hv];cases v<;>simp[wantB]
inductive Wants:Value->Bool->Bool->Prop where
 |bt (b:Bool):Wants (.bool b) true b
 |bf (b:Bool):Wants (.bool b) false (!b)
 |gt (G b:Bool):Wants (gv G (.bool b)) true (G&&b)
 |gf (G b:Bool):Wants (gv G (.bool b)) false (G&& !b)
theorem Wants.eq{v:Value}{want g:Bool}(h:Wants v want g):wantB v want=g:=
 match v,want,g,h with
 | _,_,_,.bt b=>by cases b<;>rfl
 | _,_,_,.bf b=>by cases b<;>rfl
 | _,_,_,.gt G b=>by cases G<;>cases b<;>rfl
 | _,_,_,.gf G b=>by cases G<;>cases b<;>rfl
inductive NotVar:Bool->Prop where
 |app {α:Type} {f:α->Bool} {x:α}:NotVar (f x)
section
variable {P:Program} {ops:Array Oper} {rest:List Oper} {o:Oper} {a:Act} {w:World} {Q:Exit->Act->World->Prop}
theorem wpList_guarded{j:Nat}{want:Bool}(hgd:o.guard=some (j,want)){d:Tmp}{u:Value}
  (hd:(ops[j]?).bind (·.dst)=some d)(hv:a.tmps[d]? =some u){g:Bool}(hw:Wants u want g){v:Value}
  (hrun:g=true->(execOp a.eval o).run P w= .ok (.value v) w)(h:wpList P ops Q rest (a.put o.dst (gv g v)) w):wpList P ops Q (o::rest) a w:=by
 have e:=(wanted_of (ops:=ops) (a:=a) hgd hd hv).trans hw.eq;unfold wpList
 cases g with
 |true=>
  rw[if_pos e];refine .inl ?_;unfold Oper.wp;rw[hrun rfl];exact h
 |false=>
  rw[if_neg (by simp[e])];exact h
theorem put_same{d:Tmp}{v:Value}(h:a.tmps[d]? =some v):a.put (some d) v=a:=by
 cases a with
 |mk t ds=>
  simp only[Act.put];congr 1;obtain⟨hlt,he⟩:=Array.getElem?_eq_some_iff.1 h;apply Array.ext
  ·simp
  ·intro i h1 h2;rw[Array.getElem_setIfInBounds];split
   ·rename_i e;subst e;exact he.symm
   ·rfl
theorem wpList_gen{j:Nat}{want:Bool}(_hgd:o.guard=some (j,want)){d:Tmp}{b:Bool}
  (_hd:(ops[j]?).bind (·.dst)=some d)(hv:a.tmps[d]? =some (.bool b))(_hn:NotVar b)
  (h:∀bb:Bool,Hid (bb=b)->wpList P ops Q (o::rest) (a.put (some d) (.bool bb)) w):wpList P ops Q (o::rest) a w:=by
 have:=h b rfl;rwa[put_same hv]at this
theorem wpList_gen2{j:Nat}{want:Bool}(_hgd:o.guard=some (j,want)){d:Tmp}{G b:Bool}
  (_hd:(ops[j]?).bind (·.dst)=some d)(hv:a.tmps[d]? =some (gv G (.bool b)))(_hn:NotVar b)
  (h:∀bb:Bool,Hid (bb=b)->wpList P ops Q (o::rest) (a.put (some d) (gv G (.bool bb))) w):wpList P ops Q (o::rest) a w:=by
 have:=h b rfl;rwa[put_same hv]at this
theorem run_pick{c x y:Operand}(ho:o.op= .pick c x y){b:Bool}(hc:a.eval c= .bool b):
  (execOp a.eval o).run P w= .ok (.value (if b=true then a.eval x else a.eval y)) w:=by
 simp only[execOp,ho,hc];cases b<;>simp[asBool]
theorem wpList_pick{c x y:Operand}(hgd:o.guard=none)(ho:o.op= .pick c x y){b:Bool}(hc:a.eval c= .bool b){v:Value}
  (hv:(if b=true then a.eval x else a.eval y)=v)(h:wpList P ops Q rest (a.put o.dst v) w):wpList P ops Q (o::rest) a w:=
 wpList_plain hgd λK hK=>by
  unfold Oper.wp;rw[run_pick ho hc,hv];exact hK _ _ h
theorem wpList_pick_t{c x y:Operand}(hgd:o.guard=none)(ho:o.op= .pick c x y)(hc:a.eval c= .bool true){v:Value}
  (hv:a.eval x=v)(h:wpList P ops Q rest (a.put o.dst v) w):wpList P ops Q (o::rest) a w:=wpList_pick hgd ho hc (by rw[if_pos rfl];exact hv) h
theorem wpList_pick_f{c x y:Operand}(hgd:o.guard=none)(ho:o.op= .pick c x y)(hc:a.eval c= .bool false){v:Value}
  (hv:a.eval y=v)(h:wpList P ops Q rest (a.put o.dst v) w):wpList P ops Q (o::rest) a w:=wpList_pick hgd ho hc (by rw[if_neg (by simp)];exact hv) h
theorem wpList_pick_and{c x y:Operand}(hgd:o.guard=none)(ho:o.op= .pick c x y){b b2:Bool}(hc:a.eval c= .bool b)
  (hx:a.eval x=gv b (.bool b2))(hy:a.eval y= .bool false)(h:wpList P ops Q rest (a.put o.dst (.bool (b&&b2))) w):wpList P ops Q (o::rest) a w:=
 wpList_pick hgd ho hc (by rw[hx,hy];cases b<;>rfl) h
theorem wpList_pick_or{c x y:Operand}(hgd:o.guard=none)(ho:o.op= .pick c x y){b b2:Bool}(hc:a.eval c= .bool b)
  (hx:a.eval x= .bool true)(hy:a.eval y=gv (!b) (.bool b2))(h:wpList P ops Q rest (a.put o.dst (.bool (b||b2))) w):wpList P ops Q (o::rest) a w:=
 wpList_pick hgd ho hc (by rw[hx,hy];cases b<;>rfl) h
theorem wpList_gpick_and{j:Nat}{want:Bool}(hgd:o.guard=some (j,want)){d:Tmp}{u:Value}
  (hd:(ops[j]?).bind (·.dst)=some d)(hv:a.tmps[d]? =some u){g:Bool}(hw:Wants u want g)
  {c x y:Operand}(ho:o.op= .pick c x y){b b2:Bool}(hc:a.eval c=gv g (.bool b))
  (hx:a.eval x=gv (g&&b) (.bool b2))(hy:a.eval y= .bool false)(h:wpList P ops Q rest (a.put o.dst (gv g (.bool (b&&b2)))) w):wpList P ops Q (o::rest) a w:=
 wpList_guarded hgd hd hv hw (λhG=>by
  subst hG;rw[run_pick ho (b:=b) (by rw[hc];rfl),hx,hy]
  cases b<;>rfl) h
theorem wpList_gpick_or{j:Nat}{want:Bool}(hgd:o.guard=some (j,want)){d:Tmp}{u:Value}
  (hd:(ops[j]?).bind (·.dst)=some d)(hv:a.tmps[d]? =some u){g:Bool}(hw:Wants u want g)
  {c x y:Operand}(ho:o.op= .pick c x y){b b2:Bool}(hc:a.eval c=gv g (.bool b))
  (hx:a.eval x= .bool true)(hy:a.eval y=gv (g&& !b) (.bool b2))(h:wpList P ops Q rest (a.put o.dst (gv g (.bool (b||b2)))) w):wpList P ops Q (o::rest) a w:=
 wpList_guarded hgd hd hv hw (λhG=>by
  subst hG;rw[run_pick ho (b:=b) (by rw[hc];rfl),hx,hy]
  cases b<;>rfl) h
theorem wpList_gsplit{j:Nat}{want:Bool}(_hgd:o.guard=some (j,want)){d:Tmp}{b:Bool}
  (_hd:(ops[j]?).bind (·.dst)=some d)(_hv:a.tmps[d]? =some (.bool b))(ht:b=true->wpList P ops Q (o::rest) a w)(hf:b=false->wpList P ops Q (o::rest) a w):wpList P ops Q (o::rest) a w:=by
 cases b with
 |true=>exact ht rfl
 |false=>exact hf rfl
theorem wpList_gsplit2{j:Nat}{want:Bool}(_hgd:o.guard=some (j,want)){d:Tmp}{G b:Bool}
  (_hd:(ops[j]?).bind (·.dst)=some d)(_hv:a.tmps[d]? =some (gv G (.bool b)))(ht:G=true->wpList P ops Q (o::rest) a w)(hf:G=false->wpList P ops Q (o::rest) a w):wpList P ops Q (o::rest) a w:=by
 cases G with
 |true=>exact ht rfl
 |false=>exact hf rfl
theorem wpList_isG{g:Nat × Bool}(_hgd:o.guard=some g)(h:wpList P ops Q (o::rest) a w):wpList P ops Q (o::rest) a w:=h
theorem wpList_isPick{c x y:Operand}(_ho:o.op= .pick c x y)(_hg:o.guard=none)(h:wpList P ops Q (o::rest) a w):wpList P ops Q (o::rest) a w:=h
theorem wpList_isGPick{c x y:Operand}(_ho:o.op= .pick c x y)(h:wpList P ops Q (o::rest) a w):wpList P ops Q (o::rest) a w:=h
theorem wpList_gmove{j:Nat}{want:Bool}{x:Operand}(ho:o.op= .move x)(hgd:o.guard=some (j,want)){d:Tmp}{u:Value}
  (hd:(ops[j]?).bind (·.dst)=some d)(hv:a.tmps[d]? =some u){g:Bool}(hw:Wants u want g){v:Value}(hx:a.eval x=v)(h:wpList P ops Q rest (a.put o.dst (gv g v)) w):wpList P ops Q (o::rest) a w:=
 wpList_guarded hgd hd hv hw (λ_=>by simp only[execOp,ho,hx];rfl) h
theorem wpList_ggmove{j:Nat}{want:Bool}{x:Operand}(ho:o.op= .move x)(hgd:o.guard=some (j,want)){d:Tmp}{u:Value}
  (hd:(ops[j]?).bind (·.dst)=some d)(hv:a.tmps[d]? =some u){g:Bool}(hw:Wants u want g){v:Value}(hx:a.eval x=gv g v)(h:wpList P ops Q rest (a.put o.dst (gv g v)) w):wpList P ops Q (o::rest) a w:=
 wpList_gmove ho hgd hd hv hw hx (by rw[gv_gv];exact h)
theorem wpList_gconst{j:Nat}{want:Bool}(hgd:o.guard=some (j,want)){d:Tmp}
  (hd:(ops[j]?).bind (·.dst)=some d)(hv:a.tmps[d]? =some (.bool want))(h:wpList P ops Q (⟨o.dst,o.op,o.type,o.pos,o.after,none⟩::rest) a w):wpList P ops Q (o::rest) a w:=by
 have e:Region.wanted o (yielded ops a.tmps)=true:=by rw[wanted_of hgd hd hv];cases want<;>rfl
 unfold wpList at h⊢;rw[if_pos (by simp[Region.wanted])]at h;rw[if_pos e];exact h
theorem wpList_gskip{j:Nat}{want:Bool}(hgd:o.guard=some (j,want)){d:Tmp}
  (hd:(ops[j]?).bind (·.dst)=some d)(hv:a.tmps[d]? =some (.bool (!want))∨a.tmps[d]? =some undef)(h:wpList P ops Q rest (a.put o.dst undef) w):wpList P ops Q (o::rest) a w:=by
 have e:Region.wanted o (yielded ops a.tmps)=false:=by
  rcases hv with hv|hv
  ·rw[wanted_of hgd hd hv];cases want<;>rfl
  ·rw[wanted_of hgd hd hv];rfl
 unfold wpList;rw[if_neg (by simp[e])];exact h
end
end Go.Proofs.YtimmfbnjndndlaaGreatDoor
