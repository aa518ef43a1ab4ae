/- Lemmas. -/
import Derived.WalkKit
import Derived.BigQuiet
import Derived.ProofKit
set_option linter.all false
namespace Go.Proofs.YtommaegelgilnaaGreatDoor
open Go.RowKit
variable {B base j n:Nat}{G b b2 g want:Bool}{P:Program}{c x y:Operand}{cs:List Value}{d:Tmp}{e:TypeId}{f:FuncId}{p:Addr}{u v:Value}{w w':World}{xs:List Int}
theorem nr:(∀(a:Act)(d:Option Tmp)(v:Value),a.put d v=match d with|some d=>{a with tmps:=a.tmps.setIfInBounds d v}|none=>a)/\
  (∀(α:Type)(l:List α)(i:Nat)(x:α),l.toArray.setIfInBounds i x=(l.set i x).toArray)/\(∀(α:Type)(a:α)(l:List α)(i:Nat)(x:α),(a::l).set (i+1) x=a::l.set i x)/\
  ∀(α:Type)(a:α)(l:List α)(x:α),(a::l).set 0 x=x::l:=⟨λ_ _ _=>rfl,λ_ _ _ _=>List.setIfInBounds_toArray ..,λ_ _ _ _ _=>rfl,λ_ _ _ _=>rfl⟩
theorem nq:(∀(α:Type)(l:List α)(i:Nat)(h:i<l.toArray.size),l.toArray[i]=l[i]'(by simpa using h))/\(∀(α:Type)(a:α)(l:List α)(h:0<(a::l).length),(a::l)[0]=a)/\
  (∀(α:Type)(a:α)(l:List α)(i:Nat)(h:i+1<(a::l).length),(a::l)[i+1]=l[i]'(by simpa using h))/\
  (∀(a:Act)(d:Option Tmp)(v:Value),a.put d v=match d with|some d=>{a with tmps:=a.tmps.setIfInBounds d v}|none=>a)/\
  (∀(α:Type)(l:List α)(i:Nat)(x:α),l.toArray.setIfInBounds i x=(l.set i x).toArray)/\(∀(α:Type)(a:α)(l:List α)(i:Nat)(x:α),(a::l).set (i+1) x=a::l.set i x)/\
  ∀(α:Type)(a:α)(l:List α)(x:α),(a::l).set 0 x=x::l:=⟨λ_ _ _ _=>rfl,λ_ _ _ _=>rfl,λ_ _ _ _ _=>rfl,nr⟩
theorem brd(h:Below n w w')(e:w.cell? p=some v)(a:p.block<n):w'.cell? p=some v:=(h.cell a).trans e
theorem zAz{k:IntKind}{a b:Int}(h:a=b):Ending.returned (.int k a)= .returned (.int k b):=by rw[h]
theorem zI{a b:Bool}(h:a=b):Ending.returned (.bool a)= .returned (.bool b):=by rw[h]
def gv(g:Bool)(v:Value):Value:=if g then v else undef
theorem zm(v:Value):gv true v=v:=rfl
theorem z7(v:Value):gv false v=undef:=rfl
theorem zUY(g:Bool)(v:Value):gv g (gv g v)=gv g v:=by cases g<;>rfl
def zPn(v:Value)(want:Bool):Bool:=match v with| .bool b=>b==want| _=>false
theorem zGw{o:Oper}{ops:Array Oper}{a:Act}(c:o.guard=some (j,want))
  (b:(ops[j]?).bind (·.dst)=some d)(e:a.tmps[d]? =some v):Region.wanted o (yielded ops a.tmps)=zPn v want:=by
 unfold Region.wanted yielded;simp only[c,b,Option.bind_some,e];cases v<;>simp[zPn]
inductive zEy:Value->Bool->Bool->Prop where
 |bt (b:Bool):zEy (.bool b) true b
 |bf (b:Bool):zEy (.bool b) false (!b)
 |gt (G b:Bool):zEy (gv G (.bool b)) true (G&&b)
 |gf (G b:Bool):zEy (gv G (.bool b)) false (G&& !b)
theorem zEy.eq(h:zEy v want g):zPn v want=g:=
 match v,want,g,h with
 | _,_,_,.bt b=>by cases b<;>rfl
 | _,_,_,.bf b=>by cases b<;>rfl
 | _,_,_,.gt G b=>by cases G<;>cases b<;>rfl
 | _,_,_,.gf G b=>by cases G<;>cases b<;>rfl
inductive zAn:Bool->Prop where
 |app {α:Type} {f:α->Bool} {x:α}:zAn (f x)
section
variable {P:Program} {ops:Array Oper} {rest:List Oper} {o:Oper} {a:Act} {w:World} {Q:Exit->Act->World->Prop}
theorem zAF(c:o.guard=some (j,want))
  (f:(ops[j]?).bind (·.dst)=some d)(i:a.tmps[d]? =some u)(k:zEy u want g)
  (b:g=true->(execOp a.eval o).run P w= .ok (.value v) w)(h:wpList P ops Q rest (a.put o.dst (gv g v)) w):wpList P ops Q (o::rest) a w:=by
 have e:=(zGw (ops:=ops) (a:=a) c f i).trans k.eq;unfold wpList
 cases g with
 |true=>
  rw[if_pos e];refine .inl ?_;unfold Oper.wp;rw[b rfl];exact h
 |false=>
 rw[if_neg (by simp[e])];exact h
theorem zN5(h:a.tmps[d]? =some v):a.put (some d) v=a:=by
 cases a with
 |mk t ds=>
 simp only[Act.put];congr 1;obtain⟨b,he⟩:=Array.getElem?_eq_some_iff.1 h;apply Array.ext
 ·simp
 intro i c f;rw[Array.getElem_setIfInBounds];split
 ·rename_i e;subst e;exact he.symm
 rfl
theorem zBT(c:o.guard=some (j,want))
  (f:(ops[j]?).bind (·.dst)=some d)(i:a.tmps[d]? =some (.bool b))(g:zAn b)
  (h:∀e:Bool,Hid (e=b)->wpList P ops Q (o::rest) (a.put (some d) (.bool e)) w):wpList P ops Q (o::rest) a w:=by
 have:=h b rfl;rwa[zN5 i]at this
theorem zBM(c:o.guard=some (j,want))
  (f:(ops[j]?).bind (·.dst)=some d)(i:a.tmps[d]? =some (gv G (.bool b)))(g:zAn b)
  (h:∀e:Bool,Hid (e=b)->wpList P ops Q (o::rest) (a.put (some d) (gv G (.bool e))) w):wpList P ops Q (o::rest) a w:=by
 have:=h b rfl;rwa[zN5 i]at this
theorem zKF(e:o.op= .pick c x y)(d:a.eval c= .bool b):
  (execOp a.eval o).run P w= .ok (.value (if b=true then a.eval x else a.eval y)) w:=by
 simp only[execOp,e,d];cases b<;>simp[asBool]
theorem zF8(d:o.guard=none)(g:o.op= .pick c x y)(f:a.eval c= .bool b)
  (i:(if b=true then a.eval x else a.eval y)=v)(h:wpList P ops Q rest (a.put o.dst v) w):wpList P ops Q (o::rest) a w:=
 wpList_plain d λK e=>by
  unfold Oper.wp;rw[zKF g f,i];exact e _ _ h
theorem zAg(b:o.guard=none)(e:o.op= .pick c x y)(d:a.eval c= .bool true)
  (f:a.eval x=v)(h:wpList P ops Q rest (a.put o.dst v) w):wpList P ops Q (o::rest) a w:=zF8 b e d (by rw[if_pos rfl];exact f) h
theorem zAh(b:o.guard=none)(e:o.op= .pick c x y)(d:a.eval c= .bool false)
  (f:a.eval y=v)(h:wpList P ops Q rest (a.put o.dst v) w):wpList P ops Q (o::rest) a w:=zF8 b e d (by rw[if_neg (by simp)];exact f) h
theorem zAR(d:o.guard=none)(f:o.op= .pick c x y)(e:a.eval c= .bool b)
  (g:a.eval x=gv b (.bool b2))(i:a.eval y= .bool false)(h:wpList P ops Q rest (a.put o.dst (.bool (b&&b2))) w):wpList P ops Q (o::rest) a w:=
 zF8 d f e (by rw[g,i];cases b<;>rfl) h
theorem zA7(d:o.guard=none)(f:o.op= .pick c x y)(e:a.eval c= .bool b)
  (g:a.eval x= .bool true)(i:a.eval y=gv (!b) (.bool b2))(h:wpList P ops Q rest (a.put o.dst (.bool (b||b2))) w):wpList P ops Q (o::rest) a w:=
 zF8 d f e (by rw[g,i];cases b<;>rfl) h
theorem zAJ(e:o.guard=some (j,want))
  (k:(ops[j]?).bind (·.dst)=some d)(n:a.tmps[d]? =some u)(q:zEy u want g)
  (m:o.op= .pick c x y)(i:a.eval c=gv g (.bool b))
  (s:a.eval x=gv (g&&b) (.bool b2))(t:a.eval y= .bool false)(h:wpList P ops Q rest (a.put o.dst (gv g (.bool (b&&b2)))) w):wpList P ops Q (o::rest) a w:=
 zAF e k n q (λf=>by
  subst f;rw[zKF m (b:=b) (by rw[i];rfl),s,t]
  cases b<;>rfl) h
theorem zAS(e:o.guard=some (j,want))
  (k:(ops[j]?).bind (·.dst)=some d)(n:a.tmps[d]? =some u)(q:zEy u want g)
  (m:o.op= .pick c x y)(i:a.eval c=gv g (.bool b))
  (s:a.eval x= .bool true)(t:a.eval y=gv (g&& !b) (.bool b2))(h:wpList P ops Q rest (a.put o.dst (gv g (.bool (b||b2)))) w):wpList P ops Q (o::rest) a w:=
 zAF e k n q (λf=>by
  subst f;rw[zKF m (b:=b) (by rw[i];rfl),s,t]
  cases b<;>rfl) h
theorem zAi(c:o.guard=some (j,want))
  (e:(ops[j]?).bind (·.dst)=some d)(f:a.tmps[d]? =some (.bool b))(h:b=true->wpList P ops Q (o::rest) a w)(g:b=false->wpList P ops Q (o::rest) a w):wpList P ops Q (o::rest) a w:=by
 cases b with
 |true=>exact h rfl
 |false=>exact g rfl
theorem zA8(c:o.guard=some (j,want))
  (e:(ops[j]?).bind (·.dst)=some d)(f:a.tmps[d]? =some (gv G (.bool b)))(h:G=true->wpList P ops Q (o::rest) a w)(g:G=false->wpList P ops Q (o::rest) a w):wpList P ops Q (o::rest) a w:=by
 cases G with
 |true=>exact h rfl
 |false=>exact g rfl
theorem zBU{g:Nat × Bool}(b:o.guard=some g)(h:wpList P ops Q (o::rest) a w):wpList P ops Q (o::rest) a w:=h
theorem zAj(d:o.op= .pick c x y)(b:o.guard=none)(h:wpList P ops Q (o::rest) a w):wpList P ops Q (o::rest) a w:=h
theorem zA9(b:o.op= .pick c x y)(h:wpList P ops Q (o::rest) a w):wpList P ops Q (o::rest) a w:=h
theorem zAo(e:o.op= .move x)(b:o.guard=some (j,want))
  (c:(ops[j]?).bind (·.dst)=some d)(f:a.tmps[d]? =some u)(i:zEy u want g)(k:a.eval x=v)(h:wpList P ops Q rest (a.put o.dst (gv g v)) w):wpList P ops Q (o::rest) a w:=
 zAF b c f i (λ_=>by simp only[execOp,e,k];rfl) h
theorem zAk(e:o.op= .move x)(b:o.guard=some (j,want))
  (c:(ops[j]?).bind (·.dst)=some d)(f:a.tmps[d]? =some u)(i:zEy u want g)(k:a.eval x=gv g v)(h:wpList P ops Q rest (a.put o.dst (gv g v)) w):wpList P ops Q (o::rest) a w:=
 zAo e b c f i k (by rw[zUY];exact h)
theorem zAl(b:o.guard=some (j,want))
  (c:(ops[j]?).bind (·.dst)=some d)(f:a.tmps[d]? =some (.bool want))(h:wpList P ops Q (⟨o.dst,o.op,o.type,o.pos,o.after,none⟩::rest) a w):wpList P ops Q (o::rest) a w:=by
 have e:Region.wanted o (yielded ops a.tmps)=true:=by rw[zGw b c f];cases want<;>rfl
 unfold wpList at h⊢;rw[if_pos (by simp[Region.wanted])]at h;rw[if_pos e];exact h
theorem zAx(b:o.guard=some (j,want))
  (f:(ops[j]?).bind (·.dst)=some d)(c:a.tmps[d]? =some (.bool (!want))\/a.tmps[d]? =some undef)(h:wpList P ops Q rest (a.put o.dst undef) w):wpList P ops Q (o::rest) a w:=by
 have e:Region.wanted o (yielded ops a.tmps)=false:=by
  rcases c with c|c
  ·rw[zGw b f c];cases want<;>rfl
  rw[zGw b f c];rfl
 unfold wpList;rw[if_neg (by simp[e])];exact h
end
theorem zLa{args:Array Value}{a n:Nat}
  (h:Calls P f args (w.drewN (a+n)) λe w'=>e= .returned v/\w.drewN (a+n)=w'):
  Calls P f args (w.drewN (a+n)) λe w''=>e= .returned v/\∃m,w''=w.drewN (a+m):=
 h.mono λ_ _ ⟨he,hm⟩=>⟨he,n,hm.symm⟩
section
open Go
theorem zN6{a:Func}{s:ChangeSpec}{c:OpenClaim}
  (G:c.wf (OpenSpec.ofChange s)=true)(H:laidOutB P=true)(I:mapsRowed P=true)(J:a.params.all (P.readableRec ·)=true)(K:namedTie P c.named s.vars=true)
  (L:(c.stops==[])=true)(M:(P.stops==[])=true)(N:(c.knobs==[])=true)(O:(P.stopKnobs==[])=true)
  (d:(c.inPlace==P.inPlace f)=true)(e:(c.unfollowed==P.unfollowed f)=true)(g:(c.recurses==P.recurses f)=true)(h:(c.named==P.varsNamed f)=true)
  (i:(c.maps==(a.params.toList++s.plain.varTypes P).any (P.mapsRec ·))=true)(j:(c.ifaces==(a.params.toList++s.plain.varTypes P).any (P.ifacesRec ·))=true)(m:(c.mapsOut==P.mapsAmong a.resultTypes.toList)=true)
  (n:(c.loops==(a.params.toList++s.plain.varTypes P).any (P.loopsFrom ·))=true)(o:(c.wideKeys==(a.params.toList++s.plain.varTypes P++a.resultTypes.toList).any (P.wideKeysFrom ·))=true)
  (q:s.vars.all (P.varReadable ·)=true)(u:a.resultTypes.all (λt=>P.readableRec t&&decide (t<P.types.size))=true)(v:(c.ifacesOut==a.resultTypes.toList.any (P.ifacesRec ·))=true)(w:(c.loopsOut==a.resultTypes.toList.any (P.loopsFrom ·))=true)
  (x:(c.plainKeys==P.plainKeys)=true)(y:c.shortTexts.isNone=true)(z:P.stopsHeard=true)(A:P.mayEnter=true)(B:(c.lifted==P.liftsFinal)=true)(C:(P.make==some c.make)=true)
  (b:(c.kinds==(if c.domain.isEmpty then[]else a.params.toList.map λt=>match P.underlying t with|some (.int k)=>some k| _=>none))=true)(D:(c.pinned==c.pinnedBy)=true)
  (E:(c.veiled==(a.params.toList++s.plain.varTypes P++a.resultTypes.toList).any (P.veiledRec ·))=true)(F:c.veiledFits P a.params.toList (a.params.toList++s.plain.varTypes P++a.resultTypes.toList)=true):
  joinedFacts P f a s c=true:=by
 unfold joinedFacts;simp only[Bool.and_eq_true]
 repeat' apply And.intro
 all_goals first|assumption|exact b
end
theorem hid{p:Prop}(h:p):Hid p:=h
abbrev zD:=Nat->Prop
structure zA (Z:zD) (w w':World):Prop where
 os:w'.os=w.os
 tape:w'.tape=w.tape
 output:w'.output=w.output
 size:w.heap.size<=w'.heap.size
 block:∀k,k<w.heap.size->Z k->w'.heap[k]? =w.heap[k]?
section keeps
variable {Z Z':zD} {w w' w'':World}
theorem zA.refl(Z:zD)(w:World):zA Z w w:=⟨rfl,rfl,rfl,Nat.le_refl _,λ_ _ _=>rfl⟩
theorem zA.trans(h:zA Z w w')(k:zA Z w' w''):zA Z w w'':=
 ⟨k.os.trans h.os,k.tape.trans h.tape,k.output.trans h.output,Nat.le_trans h.size k.size,λi a b=>(k.block i (Nat.lt_of_lt_of_le a h.size) b).trans (h.block i a b)⟩
theorem zA.mono(h:zA Z w w')(d:∀b,b<w.heap.size->Z' b->Z b):zA Z' w w':=⟨h.os,h.tape,h.output,h.size,λk c a=>h.block k c (d k c a)⟩
theorem zA.of_below(h:Below w.heap.size w w'):zA Z w w':=⟨h.os,h.tape,h.output,h.size,λk a _=>h.block k a⟩
theorem zA.of_below_lt(h:Below B w w')(d:∀b,b<w.heap.size->Z b->b<B):zA Z w w':=⟨h.os,h.tape,h.output,h.size,λk c a=>h.block k (d k c a)⟩
theorem zA.below(h:zA (λ_=>True) w w'):Below w.heap.size w w':=⟨h.os,h.tape,h.output,h.size,λk a=>h.block k a trivial⟩
theorem zA.drew(h:zA Z w w'):zA Z w w'.drew:=⟨h.os,h.tape,h.output,h.size,h.block⟩
theorem zA.drewN(h:zA Z w w')(n:Nat):zA Z w (w'.drewN n):=⟨h.os,h.tape,h.output,h.size,h.block⟩
theorem zA.alloc(h:zA Z w w')(o:Obj):zA Z w (w'.alloc o):=
 ⟨h.os,h.tape,h.output,Nat.le_trans h.size (by simp),λk a b=>(Below.heap_alloc _ _ _ (Nat.lt_of_lt_of_le a h.size)).trans (h.block k a b)⟩
theorem zA.setCell(h:zA Z w w')(c:p.block<w.heap.size->¬Z p.block)(u:Value):zA Z w (w'.setCell p u):=
 ⟨h.os,h.tape,h.output,Nat.le_trans h.size (by simp[World.setCell]),λk a b=>(Below.heap_setCell _ _ _ _ (λe=>by subst e;exact c a b)).trans (h.block k a b)⟩
theorem zA.grown{row:Option Nat}(h:zA Z w w')(a:w'.grownBy w'' row)(d:∀k,row=some k->k<w.heap.size->¬Z k):zA Z w w'':=
 ⟨a.os.trans h.os,a.tape.trans h.tape,a.output.trans h.output,Nat.le_trans h.size a.size,λk b c=>
  (a.block k (Nat.lt_of_lt_of_le b h.size) (λe=>d k e.symm b c)).trans (h.block k b c)⟩
theorem zA.cell(h:zA Z w w')(d:Z p.block)(b:w.cell? p=some v):w'.cell? p=some v:=by
 have a:p.block<w.heap.size:=by
  unfold World.cell? at b;rcases Nat.lt_or_ge p.block w.heap.size with a|c
  ·exact a
  rw[Array.getElem?_eq_none c]at b;simp at b
 rw[World.cell?_of_block (w:=w) (h.block p.block a d)];exact b
end keeps
theorem zFb(h:Below B w w'):zA (· <B) w w':=⟨h.os,h.tape,h.output,h.size,λk _ a=>h.block k a⟩
theorem z8(h:zA (· <B) w w')(b:B<=w.heap.size):Below B w w':=⟨h.os,h.tape,h.output,h.size,λk a=>h.block k (by omega) a⟩
theorem zAG{B b:Nat}{w x d:World}(h:Below B w x)(a:zA (λc=>c≠b) x d)(g:B<=b)(f:B<=x.heap.size):Below B w d:=
 h.trans ⟨a.os,a.tape,a.output,a.size,λk e=>a.block k (by omega) (by omega)⟩
theorem zHB{W a:World}(c:Below B W a):(∀b o,b<B->a.cell? ⟨b,o,none⟩=W.cell? ⟨b,o,none⟩)/\(∀b o,b<B->a.frozen? ⟨b,o,none⟩=W.frozen? ⟨b,o,none⟩):=
 ⟨λb o h=>c.cell (p:=⟨b,o,none⟩) h,λb o h=>c.frozen (p:=⟨b,o,none⟩) h⟩
theorem lt_of_cell(a:w.cell? p=some v):p.block<w.heap.size:=by
 unfold World.cell? at a;rcases Nat.lt_or_ge p.block w.heap.size with c|b
 ·exact c
 rw[Array.getElem?_eq_none b]at a;simp at a
theorem zD5(h:w.cell? p=some v)(o:Obj):(w.alloc o).cell? p=some v:=by
 rw[World.cell?_alloc_lt w o p (lt_of_cell h)];exact h
theorem below_drewN'{a w:World}(h:Below B a w)(n:Nat):Below B a (w.drewN n):=⟨h.os,h.tape,h.output,h.size,h.block⟩
theorem zG(w:World)(o:Obj):Below w.heap.size w (w.alloc o):=(Below.refl _ _).alloc (Nat.le_refl _) o
theorem zC{w a b:World}(h:Below B w a)(c:Below a.heap.size a b)(d:B<=w.heap.size:=by exact Nat.le_refl _):Below B w b:=h.trans (c.mono (Nat.le_trans d h.size))
def Row(Z:zD)(w:World)(A:Option Addr)(xs:List Value):Prop:=
 xs≠[]->∃b off,A=some ⟨b,off,none⟩/\Z b/\∀j u,xs[j]? =some u->w.cell? ⟨b,off+j,none⟩=some u
section row
variable {Z Z':zD} {w w':World} {A:Option Addr} {xs:List Value}
theorem Row.keep(h:Row Z w A xs)(g:zA Z w w'):Row Z w' A xs:=λa=>by
 obtain⟨b,c,e,d,f⟩:=h a;exact⟨b,c,e,d,λj u i=>g.cell d (f j u i)⟩
theorem Row.mono(h:Row Z w A xs)(g:∀b,Z b->Z' b):Row Z' w A xs:=λa=>by
 obtain⟨b,c,e,d,f⟩:=h a;exact⟨b,c,e,g b d,f⟩
theorem Row.nil:Row Z w A []:=λh=>absurd rfl h
end row
def I64(n:Int):Prop:= -9223372036854775808<=n/\n<=9223372036854775807
structure zO (Z:zD) (w:World) (v:Value) (xs:List Int):Prop where
 is:∃A cap,v= .slice A xs.length cap/\xs.length<=cap/\cap<=9223372036854775807/\xs.length*8<=140737488355328/\Row Z w A (xs.map (.int .i64))
 fit:∀x∈xs,I64 x
structure zE where
 name:ByteArray
 kind:Int
 lo:Int
 hi:Int
def zE.cells(f:zE):List Value:=[.string f.name,.int .i64 f.kind,.int .i64 f.lo,.int .i64 f.hi]
def zE.fit(f:zE):Prop:=f.name.size<=140737488355328/\I64 f.kind/\I64 f.lo/\I64 f.hi
def zAW{α:Type}(R:List Value->α->Prop)(size:Nat)(Z:zD)(w:World):List α->Option Addr->Prop
 |[],_=>True
 |k::ks,A=>∃b off cs,A=some ⟨b,off,none⟩/\Z b/\(∀j u,cs[j]? =some u->w.cell? ⟨b,off+j,none⟩=some u)/\R cs k/\zAW R size Z w ks (some ⟨b,off+size,none⟩)
section seq
variable {α:Type} {R R':List Value->α->Prop} {size:Nat} {Z Z':zD} {w w':World}
theorem zAW.imp(a:∀cs x,R cs x->R' cs x)(c:zA Z w w')(d:∀b,Z b->Z' b):∀{l:List α}{A:Option Addr},zAW R size Z w l A->zAW R' size Z' w' l A
 |[],_,_=>trivial
 | _::_,_,⟨b,off,cs,e,h1,hc,h2,h3⟩=>⟨b,off,cs,e,d b h1,λj u f=>c.cell h1 (hc j u f),a _ _ h2,zAW.imp a c d h3⟩
theorem zAW.at_:∀{l:List α}{A:Option Addr}(_:zAW R size Z w l A){i:Nat}(hi:i<l.length),
  ∃b a cs,A=some ⟨b,a,none⟩/\Z b/\(∀j u,cs[j]? =some u->w.cell? ⟨b,a+i*size+j,none⟩=some u)/\R cs l[i]
 | _::_,_,⟨b,a,cs,e,hz,hc,h1,_⟩,0,_=>⟨b,a,cs,e,hz,by simpa using hc,h1⟩
 | _::_,_,⟨b,a,cs,e,hz,hc,_,h2⟩,i+1,hi=>by
  obtain⟨n,h,c,d,m,g,f⟩:=zAW.at_ h2 (i:=i) (by simpa using hi);injection d with d;injection d with eb eo;subst eb eo;exact⟨b,a,c,e,hz,λj u k=>by have:=g j u k;rwa[show a+size+i*size+j=a+(i+1)*size+j from by rw[Nat.add_mul];omega]at this,by simpa using f⟩
end seq
structure Facts (Z:zD) (w:World) (v:Value) (xs:List zE):Prop where
 is:∃A cap,v= .slice A xs.length cap/\xs.length<=cap/\cap<=9223372036854775807/\xs.length*40<=140737488355328/\zAW (λcs x=>cs=zE.cells x) 4 Z w xs A
 fit:∀x∈xs,x.fit
structure zB where
 leaf:Bool
 fact:Int
 cuts:List Int
 kids:List Int
deriving DecidableEq
def zAY(Z:zD)(w:World)(cs:List Value)(n:zB):Prop:=
 ∃vc vk,cs=[.bool n.leaf,.int .i64 n.fact,vc,vk]/\I64 n.fact/\zO Z w vc n.cuts/\zO Z w vk n.kids
def zK(Z:zD)(w:World)(v:Value)(ns:List zB):Prop:=
 ∃A cap,v= .slice A ns.length cap/\ns.length<=cap/\cap<=9223372036854775807/\ns.length*64<=140737488355328/\zAW (zAY Z w) 4 Z w ns A
inductive Fm where
 |mk (op:Int) (name:ByteArray) (cmp n:Int) (kids:List Fm)
mutual
def FmR(Z:zD)(w:World):Fm->List Value->Prop
 | .mk op nm c n kids,cs=>I64 op/\nm.size<=140737488355328/\I64 c/\I64 n/\∃A cap,cs=[.int .i64 op,.string nm,.int .i64 c,.int .i64 n,.slice A kids.length cap]/\kids.length<=cap/\cap<=9223372036854775807/\kids.length*56<=140737488355328/\zAD Z w kids A
def zAD(Z:zD)(w:World):List Fm->Option Addr->Prop
 |[],_=>True
 |k::ks,A=>∃b off cs,A=some ⟨b,off,none⟩/\Z b/\(∀j u,cs[j]? =some u->w.cell? ⟨b,off+j,none⟩=some u)/\FmR Z w k cs/\zAD Z w ks (some ⟨b,off+5,none⟩)
end
section keep
variable {Z Z':zD} {w w':World} {v:Value}
theorem zO.keep(h:zO Z w v xs)(g:zA Z w w'):zO Z w' v xs:=by
 obtain⟨⟨A,a,e,c,d,b,i⟩,f⟩:=h;exact⟨⟨A,a,e,c,d,b,i.keep g⟩,f⟩
theorem zO.mono(h:zO Z w v xs)(j:∀b,Z b->Z' b):zO Z' w v xs:=by
 obtain⟨⟨A,a,e,d,f,c,i⟩,g⟩:=h;exact⟨⟨A,a,e,d,f,c,i.mono j⟩,g⟩
theorem Facts.keep{xs:List zE}(h:Facts Z w v xs)(g:zA Z w w'):Facts Z w' v xs:=by
 obtain⟨⟨A,a,e,c,d,b,i⟩,f⟩:=h;exact⟨⟨A,a,e,c,d,b,i.imp (λ_ _ h=>h) g (λ_ h=>h)⟩,f⟩
theorem Facts.mono{xs:List zE}(h:Facts Z w v xs)(j:∀b,Z b->Z' b):Facts Z' w v xs:=by
 obtain⟨⟨A,a,e,d,f,c,i⟩,g⟩:=h;exact⟨⟨A,a,e,d,f,c,i.imp (λ_ _ h=>h) (zA.refl _ _) j⟩,g⟩
theorem zAY.keep{n:zB}(h:zAY Z w cs n)(a:zA Z w w'):zAY Z w' cs n:=by
 obtain⟨f,g,e,d,b,c⟩:=h;exact⟨f,g,e,d,b.keep a,c.keep a⟩
theorem zAY.mono{n:zB}(h:zAY Z w cs n)(a:∀b,Z b->Z' b):zAY Z' w cs n:=by
 obtain⟨g,i,e,f,c,d⟩:=h;exact⟨g,i,e,f,c.mono a,d.mono a⟩
theorem zK.keep{d:List zB}(h:zK Z w v d)(c:zA Z w w'):zK Z w' v d:=by
 obtain⟨A,a,e,f,g,b,i⟩:=h;exact⟨A,a,e,f,g,b,i.imp (λ_ _ h=>h.keep c) c (λ_ h=>h)⟩
theorem zK.mono{f:List zB}(h:zK Z w v f)(d:∀b,Z b->Z' b):zK Z' w v f:=by
 obtain⟨A,a,e,g,i,c,j⟩:=h;exact⟨A,a,e,g,i,c,j.imp (λ_ _ h=>h.mono d) (zA.refl _ _) d⟩
mutual
theorem FmR.keep(q:zA Z w w'):∀(f:Fm)(cs:List Value),FmR Z w f cs->FmR Z w' f cs
 | .mk op nm c n kids,cs,h=>by
  unfold FmR at h⊢;obtain⟨d,g,i,j,A,a,e,k,m,b,o⟩:=h;exact⟨d,g,i,j,A,a,e,k,m,b,zAD.keep q kids A o⟩
theorem zAD.keep(a:zA Z w w'):∀(l:List Fm)(A:Option Addr),zAD Z w l A->zAD Z w' l A
 |[],_,_=>by unfold zAD;trivial
 |k::ks,A,h=>by
  unfold zAD at h⊢;obtain⟨b,c,cs,e,d,i,f,g⟩:=h;exact⟨b,c,cs,e,d,λj u m=>a.cell d (i j u m),FmR.keep a k cs f,zAD.keep a ks _ g⟩
end
mutual
theorem FmR.mono(s:∀b,Z b->Z' b):∀(f:Fm)(cs:List Value),FmR Z w f cs->FmR Z' w f cs
 | .mk op nm c n kids,cs,h=>by
  unfold FmR at h⊢;obtain⟨g,i,j,k,A,a,e,m,o,d,q⟩:=h;exact⟨g,i,j,k,A,a,e,m,o,d,zAD.mono s kids A q⟩
theorem zAD.mono(a:∀b,Z b->Z' b):∀(l:List Fm)(A:Option Addr),zAD Z w l A->zAD Z' w l A
 |[],_,_=>by unfold zAD;trivial
 |k::ks,A,h=>by
  unfold zAD at h⊢;obtain⟨b,c,cs,e,g,i,d,f⟩:=h;exact⟨b,c,cs,e,a b g,i,FmR.mono a k cs d,zAD.mono a ks _ f⟩
end
end keep
theorem zEP{b o:Nat}{f:zE}(a:∀j u,(zE.cells f)[j]? =some u->w.cell? ⟨b,o+j,none⟩=some u):
  w.cell? ⟨b,o,none⟩=some (.string f.name)/\w.cell? ⟨b,o+1,none⟩=some (.int .i64 f.kind)/\w.cell? ⟨b,o+2,none⟩=some (.int .i64 f.lo)/\w.cell? ⟨b,o+3,none⟩=some (.int .i64 f.hi):=
 ⟨a 0 _ rfl,a 1 _ rfl,a 2 _ rfl,a 3 _ rfl⟩
theorem zEQ{b o:Nat}{v0 v1 v2 v3:Value}(a:∀j u,[v0,v1,v2,v3][j]? =some u->w.cell? ⟨b,o+j,none⟩=some u):
  w.cell? ⟨b,o,none⟩=some v0/\w.cell? ⟨b,o+1,none⟩=some v1/\w.cell? ⟨b,o+2,none⟩=some v2/\w.cell? ⟨b,o+3,none⟩=some v3:=
 ⟨a 0 _ rfl,a 1 _ rfl,a 2 _ rfl,a 3 _ rfl⟩
theorem zAL{b o:Nat}{v0 v1 v2 v3 v4:Value}(a:∀j u,[v0,v1,v2,v3,v4][j]? =some u->w.cell? ⟨b,o+j,none⟩=some u):
  w.cell? ⟨b,o,none⟩=some v0/\w.cell? ⟨b,o+1,none⟩=some v1/\w.cell? ⟨b,o+2,none⟩=some v2/\w.cell? ⟨b,o+3,none⟩=some v3/\w.cell? ⟨b,o+4,none⟩=some v4:=
 ⟨a 0 _ rfl,a 1 _ rfl,a 2 _ rfl,a 3 _ rfl,a 4 _ rfl⟩
theorem zDj(h:Below B w w'){b o:Nat}(a:b<B)(c:∀j u,cs[j]? =some u->w.cell? ⟨b,o+j,none⟩=some u):
  ∀j u,cs[j]? =some u->w'.cell? ⟨b,o+j,none⟩=some u:=λj u d=>(h.cell (p:=⟨b,o+j,none⟩) a).trans (c j u d)
theorem zAD.seq{Z:zD}{w:World}:∀{l:List Fm}{A:Option Addr},zAD Z w l A->zAW (λcs f=>FmR Z w f cs) 5 Z w l A
 |[],_,_=>trivial
 | _::_,_,h=>by
  unfold zAD at h;obtain⟨b,a,cs,e,i,g,c,d⟩:=h;exact⟨b,a,cs,e,i,g,c,zAD.seq d⟩
theorem zAD.of_seq{Z:zD}{w:World}:∀{l:List Fm}{A:Option Addr},zAW (λcs f=>FmR Z w f cs) 5 Z w l A->zAD Z w l A
 |[],_,_=>by unfold zAD;trivial
 | _::_,_,⟨b,off,cs,e,hz,hc,h1,h2⟩=>by
  unfold zAD;exact⟨b,off,cs,e,hz,hc,h1,zAD.of_seq h2⟩
def firstIdx(p:Nat->Bool):(n:Nat)->(i:Nat)->Int
 |0,_=> -1
 |n+1,i=>if p i then i else firstIdx p n (i+1)
theorem zCr{p:Nat->Bool}:∀{n i k:Nat},(∀j,i<=j->j<k->p j=false)->i<=k->k<i+n->p k=true->firstIdx p n i=k
 |0,i,k,_,h1,h2,_=>by omega
 |n+1,i,k,h,h1,h2,hp=>by
  unfold firstIdx;by_cases e:i=k
  ·subst e;rw[if_pos hp]
  rw[if_neg (by rw[h i (Nat.le_refl _) (by omega)];simp),zCr (λj a b=>h j (by omega) b) (by omega) (by omega) hp]
theorem zDd{p:Nat->Bool}:∀{n i:Nat},(∀j,i<=j->j<i+n->p j=false)->firstIdx p n i= -1
 |0,_,_=>rfl
 |n+1,i,h=>by
  unfold firstIdx;rw[if_neg (by rw[h i (Nat.le_refl _) (by omega)];simp),zDd (λj a b=>h j (by omega) (by omega))]
theorem zDe(p:Nat->Bool)(n i:Nat):(∃k,i<=k/\k<i+n/\p k=true/\(∀j,i<=j->j<k->p j=false)/\firstIdx p n i=k)\/((∀j,i<=j->j<i+n->p j=false)/\firstIdx p n i= -1):=by
 induction n generalizing i with
 |zero=>exact .inr ⟨λj a b=>by omega,rfl⟩
 |succ n ih=>
 unfold firstIdx;by_cases c:p i=true
 ·rw[if_pos c];exact .inl ⟨i,Nat.le_refl _,by omega,c,λj a b=>by omega,rfl⟩
 rw[if_neg c];rcases ih (i+1)with⟨k,h1,h2,h3,h4,h5⟩|⟨h1,h2⟩
 ·exact .inl ⟨k,by omega,by omega,h3,λj a b=>by
   by_cases e:j=i
   ·subst e;simpa using c
   exact h4 j (by omega) b,h5⟩
 exact .inr ⟨λj a b=>by
  by_cases e:j=i
  ·subst e;simpa using c
  exact h1 j (by omega) (by omega),h2⟩
def zLD{α:Type}(P:Program)(g:FuncId)(lb:Array Value)(R:List Value->α->Prop)(w:World)(xs:List α)(p:Nat->Bool):Prop:=
 ∀i(hi:i<xs.length) cs,R cs xs[i]->∀W,Below w.heap.size w W->Calls P g (#[.agg cs.toArray]++lb) W λe W'=>e= .returned (.bool (p i))/\Below W.heap.size W W'
theorem Row.of_own{n a:Nat}{xs:List Value}(h:w.ownsRow base e a v n xs)(f:0<a):
  ∃A cap,v= .slice A n cap/\n<=cap/\cap<=maxLen/\Row (λb=>base<=b) w A xs:=by
 have c:=h.1;rcases h.2 with⟨rfl,rfl⟩|⟨g,cap,cur,rfl,hb,hg,hn,hm,hsz,htk⟩
 ·exact⟨none,0,rfl,Nat.le_refl _,by simp[maxLen],λd=>absurd (List.eq_nil_of_length_eq_zero (by simpa using c)) d⟩
 refine⟨some ⟨g,0,none⟩,cap,rfl,hn,hm,λ_=>⟨g,0,rfl,hb,λj u i=> ?_⟩⟩;have:=h.cells (g:=g) rfl j u i;rwa[show(⟨g,0,none⟩:Addr).add j=⟨g,0+j,none⟩ from by unfold Addr.add;split<;>simp_all]at this
theorem zO.of_own(h:w.ownsRow base e 1 v n (xs.map (.int .i64)))(g:∀x∈xs,I64 x)(i:xs.length*8<=140737488355328):zO (λb=>base<=b) w v xs:=by
 have j:xs.length=n:=by have:=h.1;simpa using this
 subst j;obtain⟨A,a,e,c,d,f⟩:=Row.of_own h (by omega);exact⟨⟨A,a,e,c,by simpa[maxLen]using d,i,f⟩,g⟩
theorem zO.nil(Z:zD)(w:World):zO Z w (.slice none 0 0) []:=⟨⟨none,0,rfl,Nat.le_refl _,by omega,by simp,Row.nil⟩,by simp⟩
theorem zO.at_{Z:zD}{A:Option Addr}{cap n:Nat}(h:zO Z w (.slice A n cap) xs){i:Nat}(hi:i<xs.length):
  ∃b a,A=some ⟨b,a,none⟩/\Z b/\b<w.heap.size/\w.cell? ⟨b,a+i,none⟩=some (.int .i64 xs[i]):=by
 obtain⟨⟨j,c,e,_,_,_,f⟩,_⟩:=h;injection e with e1 e2 e3;subst e1;obtain⟨b,a,rfl,g,d⟩:=f (by intro he;rw[List.map_eq_nil_iff]at he;subst he;simp at hi);have:=d i (.int .i64 xs[i]) (by simp[hi]);exact⟨b,a,rfl,g,lt_of_cell this,this⟩
theorem zO.open_{Z:zD}(h:zO Z w v xs)(c:xs≠[]):
  ∃b a cap,v= .slice (some ⟨b,a,none⟩) xs.length cap/\Z b/\b<w.heap.size/\xs.length<=cap/\∀j,j<xs.length->w.cell? ⟨b,a+j,none⟩=some (.int .i64 (xs.getD j 0)):=by
 obtain⟨⟨A,cap,rfl,g,_,_,k⟩,_⟩:=h;obtain⟨b,a,rfl,m,i⟩:=k (by simpa using c);have f:0<xs.length:=List.length_pos_iff.2 c
 have d:∀j,j<xs.length->w.cell? ⟨b,a+j,none⟩=some (.int .i64 (xs.getD j 0)):=λj e=>by
  rw[i j (.int .i64 xs[j]) (by simp[e])];simp[List.getD,e]
 exact⟨b,a,cap,rfl,m,lt_of_cell (d 0 f),g,d⟩
def One(w:World)(B:Nat)(v:Value):Prop:=∃t,w.heap[B]? =some (.cells #[v] t (0,0))
section one
variable {w w':World} {B:Nat} {v:Value}
theorem One.cell(h:One w B v):w.cell? ⟨B,0,none⟩=some v:=by obtain⟨t,h⟩:=h;exact cell_of_one h
theorem One.free(h:One w B v):w.frozen? ⟨B,0,none⟩=false:=by obtain⟨t,h⟩:=h;exact free_of_one h
theorem One.lt(h:One w B v):B<w.heap.size:=by obtain⟨t,h⟩:=h;exact lt_of_block h
theorem One.new(w:World)(v:Value)(t:TypeId):One (w.alloc (.cells #[v] t)) w.heap.size v:=⟨t,heap_alloc_new w _⟩
theorem One.of_block(h:One w B v)(a:w'.heap[B]? =w.heap[B]?):One w' B v:=by obtain⟨t,h⟩:=h;exact⟨t,a.trans h⟩
theorem One.keep{Z:zD}(h:One w B v)(a:zA Z w w')(b:Z B):One w' B v:=h.of_block (a.block B h.lt b)
theorem One.below{C:Nat}(h:One w B v)(a:Below C w w')(b:B<C):One w' B v:=h.of_block (a.block B b)
theorem One.alloc(h:One w B v)(o:Obj):One (w.alloc o) B v:=h.of_block (Below.heap_alloc _ _ _ h.lt)
theorem One.drew(h:One w B v):One w.drew B v:=h
theorem One.set_(h:One w B v)(u:Value):One (w.setCell ⟨B,0,none⟩ u) B u:=by obtain⟨t,h⟩:=h;exact⟨t,one_setCell h⟩
theorem One.far(h:One w B v)(a:B≠p.block)(u:Value):One (w.setCell p u) B v:=h.of_block (Below.heap_setCell _ _ _ _ a)
end one
theorem zOq(Z:zD)(w:World)(n:Nat):zA Z w (w.drewN n):=⟨rfl,rfl,rfl,Nat.le_refl _,λ_ _ _=>rfl⟩
theorem zO.drewN{Z:zD}(h:zO Z w v xs)(n:Nat):zO Z (w.drewN n) v xs:=h.keep (zOq Z w n)
theorem blw(h:Below n w w':=by(repeat(first|exact Below.refl _ _ |assumption|refine below_drewN' ?_ _ |refine Below.drew ?_ |(refine Below.setCell ?_ (by first|exact Nat.le_refl _ |(simp;done)|(simp;omega)|omega) _)|(refine Below.alloc ?_ (by first|exact Nat.le_refl _ |(simp;done)|(simp;omega)|omega) _)))):Below n w w':=h
abbrev Bw(w w':World):Prop:=Below w.heap.size w w'
end Go.Proofs.YtommaegelgilnaaGreatDoor
