/- Lemmas. -/
import Derived.Test.YtommaegelgilnaaGreatDoorM1
import Derived.BigQuiet
import Derived.ProofKit
set_option linter.all false
namespace Go.Proofs.YtommaegelgilnaaGreatDoor
open Go.RowKit
variable {G b b2 g want:Bool}{P:Program}{c x y:Operand}{d:Tmp}{f:FuncId}{j:Nat}{u v:Value}
theorem zAz{k:IntKind}{a b:Int}(h:a=b):Ending.returned (.int k a)= .returned (.int k b):=by rw[h]
theorem zI{a b:Bool}(h:a=b):Ending.returned (.bool a)= .returned (.bool b):=by rw[h]
def gv(g:Bool)(v:Value):Value:=if g then v else undef
theorem zm(v:Value):gv true v=v:=rfl
theorem z7(v:Value):gv false v=undef:=rfl
theorem zUY(g:Bool)(v:Value):gv g (gv g v)=gv g v:=by cases g<;>rfl
def zPn(v:Value)(want:Bool):Bool:=match v with| .bool b=>b==want| _=>false
theorem zGw{o:Oper}{ops:Array Oper}{a:Act}(c:o.guard=some (j,want))
  (b:(ops[j]?).bind (·.dst)=some d)(e:a.tmps[d]? =some v):Region.wanted o (yielded ops a.tmps)=zPn v want:=by
 unfold Region.wanted yielded;simp only[c,b,Option.bind_some,e];cases v<;>simp[zPn]
inductive zEy:Value->Bool->Bool->Prop where
 |bt (b:Bool):zEy (.bool b) true b
 |bf (b:Bool):zEy (.bool b) false (!b)
 |gt (G b:Bool):zEy (gv G (.bool b)) true (G&&b)
 |gf (G b:Bool):zEy (gv G (.bool b)) false (G&& !b)
theorem zEy.eq(h:zEy v want g):zPn v want=g:=
 match v,want,g,h with
 | _,_,_,.bt b=>by cases b<;>rfl
 | _,_,_,.bf b=>by cases b<;>rfl
 | _,_,_,.gt G b=>by cases G<;>cases b<;>rfl
 | _,_,_,.gf G b=>by cases G<;>cases b<;>rfl
inductive zAn:Bool->Prop where
 |app {α:Type} {f:α->Bool} {x:α}:zAn (f x)
section
variable {P:Program} {ops:Array Oper} {rest:List Oper} {o:Oper} {a:Act} {w:World} {Q:Exit->Act->World->Prop}
theorem zAF(c:o.guard=some (j,want))
  (f:(ops[j]?).bind (·.dst)=some d)(i:a.tmps[d]? =some u)(k:zEy u want g)
  (b:g=true->(execOp a.eval o).run P w= .ok (.value v) w)(h:wpList P ops Q rest (a.put o.dst (gv g v)) w):wpList P ops Q (o::rest) a w:=by
 have e:=(zGw (ops:=ops) (a:=a) c f i).trans k.eq;unfold wpList
 cases g with
 |true=>
  rw[if_pos e];refine .inl ?_;unfold Oper.wp;rw[b rfl];exact h
 |false=>
  rw[if_neg (by simp[e])];exact h
theorem zN5(h:a.tmps[d]? =some v):a.put (some d) v=a:=by
 cases a with
 |mk t ds=>
  simp only[Act.put];congr 1;obtain⟨b,he⟩:=Array.getElem?_eq_some_iff.1 h;apply Array.ext
  ·simp
  ·intro i c f;rw[Array.getElem_setIfInBounds];split
   ·rename_i e;subst e;exact he.symm
   ·rfl
theorem zBT(c:o.guard=some (j,want))
  (f:(ops[j]?).bind (·.dst)=some d)(i:a.tmps[d]? =some (.bool b))(g:zAn b)
  (h:∀e:Bool,Hid (e=b)->wpList P ops Q (o::rest) (a.put (some d) (.bool e)) w):wpList P ops Q (o::rest) a w:=by
 have:=h b rfl;rwa[zN5 i]at this
theorem zBM(c:o.guard=some (j,want))
  (f:(ops[j]?).bind (·.dst)=some d)(i:a.tmps[d]? =some (gv G (.bool b)))(g:zAn b)
  (h:∀e:Bool,Hid (e=b)->wpList P ops Q (o::rest) (a.put (some d) (gv G (.bool e))) w):wpList P ops Q (o::rest) a w:=by
 have:=h b rfl;rwa[zN5 i]at this
theorem zKF(e:o.op= .pick c x y)(d:a.eval c= .bool b):
  (execOp a.eval o).run P w= .ok (.value (if b=true then a.eval x else a.eval y)) w:=by
 simp only[execOp,e,d];cases b<;>simp[asBool]
theorem zF8(d:o.guard=none)(g:o.op= .pick c x y)(f:a.eval c= .bool b)
  (i:(if b=true then a.eval x else a.eval y)=v)(h:wpList P ops Q rest (a.put o.dst v) w):wpList P ops Q (o::rest) a w:=
 wpList_plain d λK e=>by
  unfold Oper.wp;rw[zKF g f,i];exact e _ _ h
theorem zAg(b:o.guard=none)(e:o.op= .pick c x y)(d:a.eval c= .bool true)
  (f:a.eval x=v)(h:wpList P ops Q rest (a.put o.dst v) w):wpList P ops Q (o::rest) a w:=zF8 b e d (by rw[if_pos rfl];exact f) h
theorem zAh(b:o.guard=none)(e:o.op= .pick c x y)(d:a.eval c= .bool false)
  (f:a.eval y=v)(h:wpList P ops Q rest (a.put o.dst v) w):wpList P ops Q (o::rest) a w:=zF8 b e d (by rw[if_neg (by simp)];exact f) h
theorem zAR(d:o.guard=none)(f:o.op= .pick c x y)(e:a.eval c= .bool b)
  (g:a.eval x=gv b (.bool b2))(i:a.eval y= .bool false)(h:wpList P ops Q rest (a.put o.dst (.bool (b&&b2))) w):wpList P ops Q (o::rest) a w:=
 zF8 d f e (by rw[g,i];cases b<;>rfl) h
theorem zA7(d:o.guard=none)(f:o.op= .pick c x y)(e:a.eval c= .bool b)
  (g:a.eval x= .bool true)(i:a.eval y=gv (!b) (.bool b2))(h:wpList P ops Q rest (a.put o.dst (.bool (b||b2))) w):wpList P ops Q (o::rest) a w:=
 zF8 d f e (by rw[g,i];cases b<;>rfl) h
theorem zAJ(e:o.guard=some (j,want))
  (k:(ops[j]?).bind (·.dst)=some d)(n:a.tmps[d]? =some u)(q:zEy u want g)
  (m:o.op= .pick c x y)(i:a.eval c=gv g (.bool b))
  (s:a.eval x=gv (g&&b) (.bool b2))(t:a.eval y= .bool false)(h:wpList P ops Q rest (a.put o.dst (gv g (.bool (b&&b2)))) w):wpList P ops Q (o::rest) a w:=
 zAF e k n q (λf=>by
  subst f;rw[zKF m (b:=b) (by rw[i];rfl),s,t]
  cases b<;>rfl) h
theorem zAS(e:o.guard=some (j,want))
  (k:(ops[j]?).bind (·.dst)=some d)(n:a.tmps[d]? =some u)(q:zEy u want g)
  (m:o.op= .pick c x y)(i:a.eval c=gv g (.bool b))
  (s:a.eval x= .bool true)(t:a.eval y=gv (g&& !b) (.bool b2))(h:wpList P ops Q rest (a.put o.dst (gv g (.bool (b||b2)))) w):wpList P ops Q (o::rest) a w:=
 zAF e k n q (λf=>by
  subst f;rw[zKF m (b:=b) (by rw[i];rfl),s,t]
  cases b<;>rfl) h
theorem zAi(c:o.guard=some (j,want))
  (e:(ops[j]?).bind (·.dst)=some d)(f:a.tmps[d]? =some (.bool b))(h:b=true->wpList P ops Q (o::rest) a w)(g:b=false->wpList P ops Q (o::rest) a w):wpList P ops Q (o::rest) a w:=by
 cases b with
 |true=>exact h rfl
 |false=>exact g rfl
theorem zA8(c:o.guard=some (j,want))
  (e:(ops[j]?).bind (·.dst)=some d)(f:a.tmps[d]? =some (gv G (.bool b)))(h:G=true->wpList P ops Q (o::rest) a w)(g:G=false->wpList P ops Q (o::rest) a w):wpList P ops Q (o::rest) a w:=by
 cases G with
 |true=>exact h rfl
 |false=>exact g rfl
theorem zBU{g:Nat × Bool}(b:o.guard=some g)(h:wpList P ops Q (o::rest) a w):wpList P ops Q (o::rest) a w:=h
theorem zAj(d:o.op= .pick c x y)(b:o.guard=none)(h:wpList P ops Q (o::rest) a w):wpList P ops Q (o::rest) a w:=h
theorem zA9(b:o.op= .pick c x y)(h:wpList P ops Q (o::rest) a w):wpList P ops Q (o::rest) a w:=h
theorem zAo(e:o.op= .move x)(b:o.guard=some (j,want))
  (c:(ops[j]?).bind (·.dst)=some d)(f:a.tmps[d]? =some u)(i:zEy u want g)(k:a.eval x=v)(h:wpList P ops Q rest (a.put o.dst (gv g v)) w):wpList P ops Q (o::rest) a w:=
 zAF b c f i (λ_=>by simp only[execOp,e,k];rfl) h
theorem zAk(e:o.op= .move x)(b:o.guard=some (j,want))
  (c:(ops[j]?).bind (·.dst)=some d)(f:a.tmps[d]? =some u)(i:zEy u want g)(k:a.eval x=gv g v)(h:wpList P ops Q rest (a.put o.dst (gv g v)) w):wpList P ops Q (o::rest) a w:=
 zAo e b c f i k (by rw[zUY];exact h)
theorem zAl(b:o.guard=some (j,want))
  (c:(ops[j]?).bind (·.dst)=some d)(f:a.tmps[d]? =some (.bool want))(h:wpList P ops Q (⟨o.dst,o.op,o.type,o.pos,o.after,none⟩::rest) a w):wpList P ops Q (o::rest) a w:=by
 have e:Region.wanted o (yielded ops a.tmps)=true:=by rw[zGw b c f];cases want<;>rfl
 unfold wpList at h⊢;rw[if_pos (by simp[Region.wanted])]at h;rw[if_pos e];exact h
theorem zAx(b:o.guard=some (j,want))
  (f:(ops[j]?).bind (·.dst)=some d)(c:a.tmps[d]? =some (.bool (!want))\/a.tmps[d]? =some undef)(h:wpList P ops Q rest (a.put o.dst undef) w):wpList P ops Q (o::rest) a w:=by
 have e:Region.wanted o (yielded ops a.tmps)=false:=by
  rcases c with c|c
  ·rw[zGw b f c];cases want<;>rfl
  ·rw[zGw b f c];rfl
 unfold wpList;rw[if_neg (by simp[e])];exact h
end
theorem zLa{args:Array Value}{w:World}{a n:Nat}
  (h:Calls P f args (w.drewN (a+n)) λe w'=>e= .returned v/\w.drewN (a+n)=w'):
  Calls P f args (w.drewN (a+n)) λe b=>e= .returned v/\∃m,b=w.drewN (a+m):=
 h.mono λ_ _ ⟨he,hm⟩=>⟨he,n,hm.symm⟩
section
open Go
theorem zN6{a:Func}{s:ChangeSpec}{c:OpenClaim}
  (G:c.wf (OpenSpec.ofChange s)=true)(H:laidOutB P=true)(I:mapsRowed P=true)(J:a.params.all (P.readableRec ·)=true)(K:namedTie P c.named s.vars=true)
  (L:(c.stops==[])=true)(M:(P.stops==[])=true)(N:(c.knobs==[])=true)(O:(P.stopKnobs==[])=true)
  (d:(c.inPlace==P.inPlace f)=true)(e:(c.unfollowed==P.unfollowed f)=true)(g:(c.recurses==P.recurses f)=true)(h:(c.named==P.varsNamed f)=true)
  (i:(c.maps==(a.params.toList++s.plain.varTypes P).any (P.mapsRec ·))=true)(j:(c.ifaces==(a.params.toList++s.plain.varTypes P).any (P.ifacesRec ·))=true)(m:(c.mapsOut==P.mapsAmong a.resultTypes.toList)=true)
  (n:(c.loops==(a.params.toList++s.plain.varTypes P).any (P.loopsFrom ·))=true)(o:(c.wideKeys==(a.params.toList++s.plain.varTypes P++a.resultTypes.toList).any (P.wideKeysFrom ·))=true)
  (q:s.vars.all (P.varReadable ·)=true)(u:a.resultTypes.all (λt=>P.readableRec t&&decide (t<P.types.size))=true)(v:(c.ifacesOut==a.resultTypes.toList.any (P.ifacesRec ·))=true)(w:(c.loopsOut==a.resultTypes.toList.any (P.loopsFrom ·))=true)
  (x:(c.plainKeys==P.plainKeys)=true)(y:c.shortTexts.isNone=true)(z:P.stopsHeard=true)(A:P.mayEnter=true)(B:(c.lifted==P.liftsFinal)=true)(C:(P.make==some c.make)=true)
  (b:(c.kinds==(if c.domain.isEmpty then[]else a.params.toList.map λt=>match P.underlying t with|some (.int k)=>some k| _=>none))=true)(D:(c.pinned==c.pinnedBy)=true)
  (E:(c.veiled==(a.params.toList++s.plain.varTypes P++a.resultTypes.toList).any (P.veiledRec ·))=true)(F:c.veiledFits P a.params.toList (a.params.toList++s.plain.varTypes P++a.resultTypes.toList)=true):
  joinedFacts P f a s c=true:=by
 unfold joinedFacts;simp only[Bool.and_eq_true]
 repeat' apply And.intro
 all_goals first|assumption|exact b
end
end Go.Proofs.YtommaegelgilnaaGreatDoor
