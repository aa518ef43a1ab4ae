/- Texts G B L QT L2. -/
import Derived.Test.YtonmdbdopchkaaaGreatDoorM1
import Derived.Deep.MidRow
import Derived.Maps.AppendAt
import Derived.Deep.QuietTactic
import Derived.BigQuiet
import Derived.Deep.RegionLaw
import Derived.Deep.RegionLawGrows
set_option linter.all false
namespace Go.Proofs.YtonmdbdopchkaaaGreatDoor
open Go.RowKit
theorem zAD{k:IntKind}{a b:Int}(h:a=b):Ending.returned (.int k a)= .returned (.int k b):=by rw[h]
theorem zI{a b:Bool}(h:a=b):Ending.returned (.bool a)= .returned (.bool b):=by rw[h]
def gv(g:Bool)(v:Value):Value:=if g then v else undef
theorem zA2(v:Value):gv true v=v:=rfl
theorem zAM(v:Value):gv false v=undef:=rfl
theorem zVe(g:Bool)(v:Value):gv g (gv g v)=gv g v:=by cases g<;>rfl
def zQe(v:Value)(want:Bool):Bool:=match v with| .bool b=>b==want| _=>false
theorem zGg{o:Oper}{ops:Array Oper}{a:Act}{j:Nat}{want:Bool}(hg:o.guard=some (j,want)){d:Tmp}{v:Value}
  (hd:(ops[j]?).bind (·.dst)=some d)(hv:a.tmps[d]? =some v):Region.wanted o (yielded ops a.tmps)=zQe v want:=by
 unfold Region.wanted yielded;simp only[hg,hd,Option.bind_some,hv];cases v<;>simp[zQe]
inductive zEi:Value->Bool->Bool->Prop where
 |bt (b:Bool):zEi (.bool b) true b
 |bf (b:Bool):zEi (.bool b) false (!b)
 |gt (G b:Bool):zEi (gv G (.bool b)) true (G&&b)
 |gf (G b:Bool):zEi (gv G (.bool b)) false (G&& !b)
theorem zEi.eq{v:Value}{want g:Bool}(h:zEi v want g):zQe v want=g:=
 match v,want,g,h with
 | _,_,_,.bt b=>by cases b<;>rfl
 | _,_,_,.bf b=>by cases b<;>rfl
 | _,_,_,.gt G b=>by cases G<;>cases b<;>rfl
 | _,_,_,.gf G b=>by cases G<;>cases b<;>rfl
inductive zBZ:Bool->Prop where
 |app {α:Type} {f:α->Bool} {x:α}:zBZ (f x)
section
variable {P:Program} {ops:Array Oper} {rest:List Oper} {o:Oper} {a:Act} {w:World} {Q:Exit->Act->World->Prop}
theorem zAb{j:Nat}{want:Bool}(hgd:o.guard=some (j,want)){d:Tmp}{u:Value}
  (hd:(ops[j]?).bind (·.dst)=some d)(hv:a.tmps[d]? =some u){g:Bool}(hw:zEi u want g){v:Value}
  (hrun:g=true->(execOp a.eval o).run P w= .ok (.value v) w)(h:wpList P ops Q rest (a.put o.dst (gv g v)) w):wpList P ops Q (o::rest) a w:=by
 have e:=(zGg (ops:=ops) (a:=a) hgd hd hv).trans hw.eq;unfold wpList
 cases g with
 |true=>
  rw[if_pos e];refine .inl ?_;unfold Oper.wp;rw[hrun rfl];exact h
 |false=>
  rw[if_neg (by simp[e])];exact h
theorem zNn{d:Tmp}{v:Value}(h:a.tmps[d]? =some v):a.put (some d) v=a:=by
 cases a with
 |mk t ds=>
  simp only[Act.put];congr 1;obtain⟨hlt,he⟩:=Array.getElem?_eq_some_iff.1 h;apply Array.ext
  ·simp
  ·intro i h1 h2;rw[Array.getElem_setIfInBounds];split
   ·rename_i e;subst e;exact he.symm
   ·rfl
theorem zCM{j:Nat}{want:Bool}(_hgd:o.guard=some (j,want)){d:Tmp}{b:Bool}
  (_hd:(ops[j]?).bind (·.dst)=some d)(hv:a.tmps[d]? =some (.bool b))(_hn:zBZ b)
  (h:∀bb:Bool,Hid (bb=b)->wpList P ops Q (o::rest) (a.put (some d) (.bool bb)) w):wpList P ops Q (o::rest) a w:=by
 have:=h b rfl;rwa[zNn hv]at this
theorem zBx{j:Nat}{want:Bool}(_hgd:o.guard=some (j,want)){d:Tmp}{G b:Bool}
  (_hd:(ops[j]?).bind (·.dst)=some d)(hv:a.tmps[d]? =some (gv G (.bool b)))(_hn:zBZ b)
  (h:∀bb:Bool,Hid (bb=b)->wpList P ops Q (o::rest) (a.put (some d) (gv G (.bool bb))) w):wpList P ops Q (o::rest) a w:=by
 have:=h b rfl;rwa[zNn hv]at this
theorem zKF{c x y:Operand}(ho:o.op= .pick c x y){b:Bool}(hc:a.eval c= .bool b):
  (execOp a.eval o).run P w= .ok (.value (if b=true then a.eval x else a.eval y)) w:=by
 simp only[execOp,ho,hc];cases b<;>simp[asBool]
theorem zFN{c x y:Operand}(hgd:o.guard=none)(ho:o.op= .pick c x y){b:Bool}(hc:a.eval c= .bool b){v:Value}
  (hv:(if b=true then a.eval x else a.eval y)=v)(h:wpList P ops Q rest (a.put o.dst v) w):wpList P ops Q (o::rest) a w:=
 wpList_plain hgd λK hK=>by
  unfold Oper.wp;rw[zKF ho hc,hv];exact hK _ _ h
theorem zB3{c x y:Operand}(hgd:o.guard=none)(ho:o.op= .pick c x y)(hc:a.eval c= .bool true){v:Value}
  (hv:a.eval x=v)(h:wpList P ops Q rest (a.put o.dst v) w):wpList P ops Q (o::rest) a w:=zFN hgd ho hc (by rw[if_pos rfl];exact hv) h
theorem zB4{c x y:Operand}(hgd:o.guard=none)(ho:o.op= .pick c x y)(hc:a.eval c= .bool false){v:Value}
  (hv:a.eval y=v)(h:wpList P ops Q rest (a.put o.dst v) w):wpList P ops Q (o::rest) a w:=zFN hgd ho hc (by rw[if_neg (by simp)];exact hv) h
theorem zBF{c x y:Operand}(hgd:o.guard=none)(ho:o.op= .pick c x y){b b2:Bool}(hc:a.eval c= .bool b)
  (hx:a.eval x=gv b (.bool b2))(hy:a.eval y= .bool false)(h:wpList P ops Q rest (a.put o.dst (.bool (b&&b2))) w):wpList P ops Q (o::rest) a w:=
 zFN hgd ho hc (by rw[hx,hy];cases b<;>rfl) h
theorem zBQ{c x y:Operand}(hgd:o.guard=none)(ho:o.op= .pick c x y){b b2:Bool}(hc:a.eval c= .bool b)
  (hx:a.eval x= .bool true)(hy:a.eval y=gv (!b) (.bool b2))(h:wpList P ops Q rest (a.put o.dst (.bool (b||b2))) w):wpList P ops Q (o::rest) a w:=
 zFN hgd ho hc (by rw[hx,hy];cases b<;>rfl) h
theorem zAs{j:Nat}{want:Bool}(hgd:o.guard=some (j,want)){d:Tmp}{u:Value}
  (hd:(ops[j]?).bind (·.dst)=some d)(hv:a.tmps[d]? =some u){g:Bool}(hw:zEi u want g)
  {c x y:Operand}(ho:o.op= .pick c x y){b b2:Bool}(hc:a.eval c=gv g (.bool b))
  (hx:a.eval x=gv (g&&b) (.bool b2))(hy:a.eval y= .bool false)(h:wpList P ops Q rest (a.put o.dst (gv g (.bool (b&&b2)))) w):wpList P ops Q (o::rest) a w:=
 zAb hgd hd hv hw (λhG=>by
  subst hG;rw[zKF ho (b:=b) (by rw[hc];rfl),hx,hy]
  cases b<;>rfl) h
theorem zBG{j:Nat}{want:Bool}(hgd:o.guard=some (j,want)){d:Tmp}{u:Value}
  (hd:(ops[j]?).bind (·.dst)=some d)(hv:a.tmps[d]? =some u){g:Bool}(hw:zEi u want g)
  {c x y:Operand}(ho:o.op= .pick c x y){b b2:Bool}(hc:a.eval c=gv g (.bool b))
  (hx:a.eval x= .bool true)(hy:a.eval y=gv (g&& !b) (.bool b2))(h:wpList P ops Q rest (a.put o.dst (gv g (.bool (b||b2)))) w):wpList P ops Q (o::rest) a w:=
 zAb hgd hd hv hw (λhG=>by
  subst hG;rw[zKF ho (b:=b) (by rw[hc];rfl),hx,hy]
  cases b<;>rfl) h
theorem zB5{j:Nat}{want:Bool}(_hgd:o.guard=some (j,want)){d:Tmp}{b:Bool}
  (_hd:(ops[j]?).bind (·.dst)=some d)(_hv:a.tmps[d]? =some (.bool b))(ht:b=true->wpList P ops Q (o::rest) a w)(hf:b=false->wpList P ops Q (o::rest) a w):wpList P ops Q (o::rest) a w:=by
 cases b with
 |true=>exact ht rfl
 |false=>exact hf rfl
theorem zBR{j:Nat}{want:Bool}(_hgd:o.guard=some (j,want)){d:Tmp}{G b:Bool}
  (_hd:(ops[j]?).bind (·.dst)=some d)(_hv:a.tmps[d]? =some (gv G (.bool b)))(ht:G=true->wpList P ops Q (o::rest) a w)(hf:G=false->wpList P ops Q (o::rest) a w):wpList P ops Q (o::rest) a w:=by
 cases G with
 |true=>exact ht rfl
 |false=>exact hf rfl
theorem zCN{g:Nat × Bool}(_hgd:o.guard=some g)(h:wpList P ops Q (o::rest) a w):wpList P ops Q (o::rest) a w:=h
theorem zB6{c x y:Operand}(_ho:o.op= .pick c x y)(_hg:o.guard=none)(h:wpList P ops Q (o::rest) a w):wpList P ops Q (o::rest) a w:=h
theorem zBS{c x y:Operand}(_ho:o.op= .pick c x y)(h:wpList P ops Q (o::rest) a w):wpList P ops Q (o::rest) a w:=h
theorem zB0{j:Nat}{want:Bool}{x:Operand}(ho:o.op= .move x)(hgd:o.guard=some (j,want)){d:Tmp}{u:Value}
  (hd:(ops[j]?).bind (·.dst)=some d)(hv:a.tmps[d]? =some u){g:Bool}(hw:zEi u want g){v:Value}(hx:a.eval x=v)(h:wpList P ops Q rest (a.put o.dst (gv g v)) w):wpList P ops Q (o::rest) a w:=
 zAb hgd hd hv hw (λ_=>by simp only[execOp,ho,hx];rfl) h
theorem zB7{j:Nat}{want:Bool}{x:Operand}(ho:o.op= .move x)(hgd:o.guard=some (j,want)){d:Tmp}{u:Value}
  (hd:(ops[j]?).bind (·.dst)=some d)(hv:a.tmps[d]? =some u){g:Bool}(hw:zEi u want g){v:Value}(hx:a.eval x=gv g v)(h:wpList P ops Q rest (a.put o.dst (gv g v)) w):wpList P ops Q (o::rest) a w:=
 zB0 ho hgd hd hv hw hx (by rw[zVe];exact h)
theorem zB8{j:Nat}{want:Bool}(hgd:o.guard=some (j,want)){d:Tmp}
  (hd:(ops[j]?).bind (·.dst)=some d)(hv:a.tmps[d]? =some (.bool want))(h:wpList P ops Q (⟨o.dst,o.op,o.type,o.pos,o.after,none⟩::rest) a w):wpList P ops Q (o::rest) a w:=by
 have e:Region.wanted o (yielded ops a.tmps)=true:=by rw[zGg hgd hd hv];cases want<;>rfl
 unfold wpList at h⊢;rw[if_pos (by simp[Region.wanted])]at h;rw[if_pos e];exact h
theorem zBj{j:Nat}{want:Bool}(hgd:o.guard=some (j,want)){d:Tmp}
  (hd:(ops[j]?).bind (·.dst)=some d)(hv:a.tmps[d]? =some (.bool (!want))∨a.tmps[d]? =some undef)(h:wpList P ops Q rest (a.put o.dst undef) w):wpList P ops Q (o::rest) a w:=by
 have e:Region.wanted o (yielded ops a.tmps)=false:=by
  rcases hv with hv|hv
  ·rw[zGg hgd hd hv];cases want<;>rfl
  ·rw[zGg hgd hd hv];rfl
 unfold wpList;rw[if_neg (by simp[e])];exact h
end
def Blk(w:World)(g:Nat)(t:TypeId)(cs:Array Value):Prop:=w.heap[g]? =some (.cells cs t (0,0))
section
variable {w w':World} {g:Nat} {t:TypeId} {cs:Array Value}
theorem Blk.lt(h:Blk w g t cs):g<w.heap.size:=lt_of_block h
theorem Blk.cell(h:Blk w g t cs)(i:Nat):w.cell? ⟨g,i,none⟩=cs[i]? :=cell_of_row w g i cs t (0,0) h
theorem Blk.at0{x:Value}{l:List Value}(h:Blk w g t (x::l).toArray):w.cell? ⟨g,0,none⟩=some x:=h.cell 0
theorem Blk.at1{a x:Value}{l:List Value}(h:Blk w g t (a::x::l).toArray):w.cell? ⟨g,1,none⟩=some x:=h.cell 1
theorem Blk.at2{a b x:Value}{l:List Value}(h:Blk w g t (a::b::x::l).toArray):w.cell? ⟨g,2,none⟩=some x:=h.cell 2
theorem Blk.at3{a b c x:Value}{l:List Value}(h:Blk w g t (a::b::c::x::l).toArray):w.cell? ⟨g,3,none⟩=some x:=h.cell 3
theorem Blk.at4{a b c d x:Value}{l:List Value}(h:Blk w g t (a::b::c::d::x::l).toArray):w.cell? ⟨g,4,none⟩=some x:=h.cell 4
theorem Blk.frozen(h:Blk w g t cs)(i:Nat):w.frozen? ⟨g,i,none⟩=false:=by
 unfold Blk at h;simp[World.frozen?,h]
theorem Blk.new(w:World)(t:TypeId)(cs:Array Value):Blk (w.alloc (.cells cs t)) w.heap.size t cs:=heap_alloc_new w _
theorem Blk.of_block(h:Blk w g t cs)(hb:w'.heap[g]? =w.heap[g]?):Blk w' g t cs:=hb.trans h
theorem Blk.drew(h:Blk w g t cs):Blk w.drew g t cs:=h
theorem Blk.drewN(h:Blk w g t cs)(n:Nat):Blk (w.drewN n) g t cs:=h
theorem Blk.alloc(h:Blk w g t cs)(o:Obj):Blk (w.alloc o) g t cs:=(Below.heap_alloc w o g h.lt).trans h
theorem Blk.set_(h:Blk w g t cs)(i:Nat)(u:Value):Blk (w.setCell ⟨g,i,none⟩ u) g t (cs.setIfInBounds i u):=by
 unfold Blk at h⊢;simp[World.setCell,Array.getElem?_modify,h]
theorem Blk.far(h:Blk w g t cs){p:Addr}(hp:g≠p.block)(u:Value):Blk (w.setCell p u) g t cs:=(Below.heap_setCell w p u g hp).trans h
theorem Blk.below{B:Nat}(h:Blk w g t cs)(hb:Below B w w')(hg:g<B):Blk w' g t cs:=(hb.block g hg).trans h
theorem Blk.keep{Z:zD}(h:Blk w g t cs)(hk:zA Z w w')(hz:Z g):Blk w' g t cs:=(hk.block g h.lt hz).trans h
theorem Blk.there(h:Blk w g t cs):w.there g 0 cs.size:=λj hj=>by
 rw[Nat.zero_add];exact⟨by rw[h.cell];simp[hj],h.frozen j⟩
end
theorem zBX(g:Nat):∀(vs:List Value)(o:Nat)(w:World)(k:Nat),k≠g->(w.setCells g o vs).heap[k]? =w.heap[k]?
 |[],_,_,_,_=>rfl
 |v::r,o,w,k,h=>by
  unfold World.setCells;rw[zBX g r (o+1) _ k h,Below.heap_setCell _ _ _ _ (by simpa using h)]
theorem size_setCells(g:Nat):∀(vs:List Value)(o:Nat)(w:World),(w.setCells g o vs).heap.size =w.heap.size∧(w.setCells g o vs).os =w.os∧(w.setCells g o vs).tape =w.tape∧(w.setCells g o vs).output =w.output
 |[],_,_=>⟨rfl,rfl,rfl,rfl⟩
 |v::r,o,w=>by
  unfold World.setCells;obtain⟨h1,h2,h3,h4⟩:=size_setCells g r (o+1) (w.setCell ⟨g,o,none⟩ v);exact⟨h1.trans (by simp[World.setCell]),h2,h3,h4⟩
def zC8(cs:Array Value):List Value->Nat->Array Value
 |[],_=>cs
 |v::r,o=>zC8 (cs.setIfInBounds o v) r (o+1)
theorem Blk.setCells{g:Nat}{t:TypeId}:∀(vs:List Value)(o:Nat)(w:World)(cs:Array Value),Blk w g t cs->Blk (w.setCells g o vs) g t (zC8 cs vs o)
 |[],_,_,_,h=>h
 |v::r,o,w,cs,h=>by
  unfold World.setCells zC8;exact Blk.setCells r (o+1) _ _ (h.set_ o v)
theorem zFO:∀(vs:List Value)(o:Nat)(cs:Array Value),o+vs.length≤cs.size->∀j,(zC8 cs vs o)[j]? =if o≤j∧j<o+vs.length then vs[j-o]? else cs[j]?
 |[],o,cs,_,j=>by simp[zC8];omega
 |v::r,o,cs,h,j=>by
  simp only[List.length_cons]at h;unfold zC8;rw[zFO r (o+1) _ (by simp;omega) j];by_cases h1:o+1≤j∧j<o+1+r.length
  ·rw[if_pos h1,if_pos (by simp;omega),show j-o=(j-(o+1))+1 from by omega];simp
  ·rw[if_neg h1];by_cases h2:j=o
   ·subst h2;rw[if_pos ⟨Nat.le_refl _,by simp only[List.length_cons];omega⟩,Nat.sub_self,Array.getElem?_setIfInBounds_self_of_lt (by omega)];rfl
   ·rw[if_neg (by simp;omega),Array.getElem?_setIfInBounds_ne (by omega)]
theorem zJ7{vs:List Value}{cs:Array Value}(h:vs.length=cs.size):zC8 cs vs 0=vs.toArray:=by
 apply Array.ext_getElem?;intro j;rw[zFO vs 0 cs (by omega) j];by_cases hj:j<vs.length
 ·rw[if_pos (by omega)];simp
 ·rw[if_neg (by omega)];simp[Array.getElem?_eq_none (xs:=cs) (i:=j) (by omega)];omega
section laws
variable {P:Program} {ops:Array Oper} {rest:List Oper} {o:Oper} {a:Act} {w:World} {Q:Exit->Act->World->Prop}
theorem zg(hgd:o.guard=none)(ty:TypeId)(x y:Operand)(ho:o.op= .store ty x y){g:Nat}{t:TypeId}{cs cells:Array Value}(hx:a.eval x= .pointer (some ⟨g,0,none⟩))(hy:a.eval y= .agg cells)
  (hb:Blk w g t cs)(hs:cs.size=cells.size)(hi:(P.info? ty).map (·.size)=some cells.size)(h1:cells.all (·.oneCell')=true)
  (h:∀w1,Blk w1 g t cells->zA (λb=>b≠g) w w1->w1.heap.size=w.heap.size->wpList P ops Q rest (a.put o.dst undef) w1):wpList P ops Q (o::rest) a w:=by
 refine wpList_store_mid hgd ty x y ho g 0 cells hx hy (hs▸hb.there) hi h1 ?_;obtain⟨s1,s2,s3,s4⟩:=size_setCells g cells.toList 0 w;refine h _ ?_ ⟨s2,s3,s4,Nat.le_of_eq s1.symm,λk _ hk=>zBX g _ 0 w k hk⟩ s1;have:=Blk.setCells cells.toList 0 w cs hb;rwa[zJ7 (by simpa using hs.symm),Array.toArray_toList]at this
theorem zKp(hgd:o.guard=none)(ty:TypeId)(x:Operand)(ho:o.op= .load ty x){g:Nat}{t:TypeId}{cs:Array Value}(hx:a.eval x= .pointer (some ⟨g,0,none⟩))(hb:Blk w g t cs)(d:TypeDesc)
  (hu:P.underlying ty=some d)(hd:(match d with| .struct _ | .array _ _=>true| _=>false)=true)(hi:(P.info? ty).map (·.size)=some cs.size)
  (h:wpList P ops Q rest (a.put o.dst (.agg cs)) w):wpList P ops Q (o::rest) a w:=
 wpList_load_row hgd ty x ho g hx t cs (0,0) d hb hu hd hi h
end laws
theorem zAy(w:World)(o p:Obj):Below w.heap.size w ((w.alloc o).alloc p):=(zE w o).alloc (by simp) p
theorem zH5{w:World}{base base':Nat}{e:TypeId}{size n:Nat}{v:Value}{xs:List Value}(h:w.ownsRow base e size v n xs)(hb:base'≤base):w.ownsRow base' e size v n xs:=by
 refine⟨h.1,?_⟩;rcases h.2 with hn|⟨g,cap,cur,e1,e2,r⟩
 ·exact .inl hn
 ·exact .inr ⟨g,cap,cur,e1,Nat.le_trans hb e2,r⟩
section
variable {P:Program} {ops:Array Oper} {rest:List Oper} {o:Oper} {a:Act} {w:World} {Q:Exit->Act->World->Prop}
structure zCV (P:Program) (e:TypeId) (size bytes:Nat):Prop where
 pos:0<size
 is:∃i z,P.info? e=some i∧i.zero=some z∧i.size=size∧i.bytes=bytes∧z.cells.size=size
theorem zE5{P:Program}{e:TypeId}{z:Value}{size bytes:Nat}(h:(P.info? e).map (λi=>(i.zero,i.size,i.bytes))=some (some z,size,bytes))(hz:z.cells.size=size)(hp:0<size):zCV P e size bytes:=by
 cases hi:P.info? e with
 |none=>rw[hi]at h;cases h
 |some i=>
  rw[hi]at h;simp only[Option.map_some,Option.some.injEq,Prod.mk.injEq]at h;exact⟨hp,i,z,hi,h.1,h.2.1,h.2.2,hz⟩
theorem zHD{base:Nat}{t ty e:TypeId}{size bytes:Nat}(ht:P.underlying t=some (.slice e))(E:zCV P e size bytes){v:Value}{n:Nat}{xs:List Value}(hown:w.ownsRow base e size v n xs)
  {g m c:Nat}{off:Nat}{news:List Value}(hn:news.length=m*size)(hc:∀j u,news[j]? =some u->w.cell? ⟨g,off+j,none⟩=some u)(h1:∀u∈news,u.oneCell'=true)(h63:n+m≤maxLen)(hb:(n+m)*bytes≤140737488355328)(hbase:base≤w.heap.size):
  ∃v' w',(Builtin.append_ #[t,t] ty #[v,.slice (some ⟨g,off,none⟩) m c]).run P w= .ok v' w'∧w'.ownsRow base e size v' (n+m) (xs++news)∧w.grownBy w' v.ownBlock∧(v'.ownBlock=v.ownBlock∨v'.ownBlock=some w.heap.size):=by
 obtain⟨hp,i,z,hi,hz,hsz,hby,hzs⟩:=E
 obtain⟨v',w',hrun,h2,h3,_,h5⟩:=run_append_own_at (P:=P) w base t ty e i z size bytes ht hi hz hsz hby hzs hp v n xs hown ⟨g,off,none⟩ m c news hn
  (λj u hu=>by rw[show(⟨g,off,none⟩:Addr).add j=⟨g,off+j,none⟩ from by unfold Addr.add;split<;>simp_all];exact hc j u hu) h1 h63 hb hbase
 exact⟨v',w',hrun,h2,h3,h5⟩
theorem zf(hgd:o.guard=none)(s x:Operand)(t:TypeId)(ho:o.op= .call {callee:= .builtin .append,args:=#[s,x],argTypes:=#[t,t]})
  {base:Nat}{e:TypeId}{size bytes:Nat}(ht:P.underlying t=some (.slice e))(E:zCV P e size bytes){v:Value}{n:Nat}{xs:List Value}(hs:a.eval s=v)(hown:w.ownsRow base e size v n xs)
  {g m c off:Nat}(hx:a.eval x= .slice (some ⟨g,off,none⟩) m c){news:List Value}(hn:news.length=m*size)(hc:∀j u,news[j]? =some u->w.cell? ⟨g,off+j,none⟩=some u)(h1:∀u∈news,u.oneCell'=true)(h63:n+m≤maxLen)(hb:(n+m)*bytes≤140737488355328)(hbase:base≤w.heap.size)
  (h:∀v' w',w'.ownsRow base e size v' (n+m) (xs++news)->w.grownBy w' v.ownBlock->(v'.ownBlock=v.ownBlock∨v'.ownBlock=some w.heap.size)->wpList P ops Q rest (a.put o.dst v') w'):wpList P ops Q (o::rest) a w:=
 wpList_plain hgd λK hK=>by
  obtain⟨v',w',hrun,h2,h3,h4⟩:=zHD (ty:=o.type) ht E hown hn hc h1 h63 hb hbase;unfold Oper.wp execOp;simp only[ho,resolve,invoke,builtin,Sem.run_bind,Sem.run_pure,Result.andThen_ok,List.map_toArray,List.map_cons,List.map_nil,hs,hx];rw[hrun];exact hK _ _ (h v' w' h2 h3 h4)
end
theorem zx{B:Nat}{a w w':World}{v:Value}{base:Nat}{e:TypeId}{size n:Nat}{xs:List Value}(h:Below B a w)(hown:w.ownsRow base e size v n xs)(hg:w.grownBy w' v.ownBlock)(hB:B≤w.heap.size)(hb:B≤base):Below B a w':=
 h.grown hg hB (λk hk=>Nat.le_trans hb (hown.lt k hk).1)
theorem one_cell{w:World}{g:Nat}{u:Value}(h:w.cell? ⟨g,0,none⟩=some u):∀j x,[u][j]? =some x->w.cell? ⟨g,0+j,none⟩=some x:=λj x hx=>by
 cases j with
 |zero=>simp at hx;subst hx;simpa using h
 |succ j=>simp at hx
theorem zLe{P:Program}{f:FuncId}{args:Array Value}{w:World}{a n:Nat}{v:Value}
  (h:Calls P f args (w.drewN (a+n)) λe w'=>e= .returned v∧w.drewN (a+n)=w'):
  Calls P f args (w.drewN (a+n)) λe w''=>e= .returned v∧∃m,w''=w.drewN (a+m):=
 h.mono λ_ _ ⟨he,hm⟩=>⟨he,n,hm.symm⟩
theorem zDd{P:Program}{ops:Array Oper}{o:Oper}{a:Act}{w:World}{K:Act->World->Prop}{Q:Exit->Act->World->Prop}{E:Prop}
  (hgd:o.guard=none)(s x:Operand)(t:TypeId)(ho:o.op= .call {callee:= .builtin .append,args:=#[s,x],argTypes:=#[t,t]})
  {base:Nat}{e:TypeId}{size bytes:Nat}(ht:P.underlying t=some (.slice e))(El:zCV P e size bytes){v:Value}{n:Nat}{xs:List Value}(hs:a.eval s=v)(hown:w.ownsRow base e size v n xs)
  {g m c off:Nat}(hx:a.eval x= .slice (some ⟨g,off,none⟩) m c){news:List Value}(hn:news.length=m*size)(hc:∀j u,news[j]? =some u->w.cell? ⟨g,off+j,none⟩=some u)(h1:∀u∈news,u.oneCell'=true)(h63:n+m≤maxLen)(hb:(n+m)*bytes≤140737488355328)(hbase:base≤w.heap.size)
  (hK:∀v' w',w'.ownsRow base e size v' (n+m) (xs++news)->w.grownBy w' v.ownBlock->(v'.ownBlock=v.ownBlock∨v'.ownBlock=some w.heap.size)->K (a.put o.dst v') w'):
  if Region.wanted o (yielded ops a.tmps)=true then Oper.wp P o a w K Q else E:=by
 have hw:Region.wanted o (yielded ops a.tmps)=true:=by simp[Region.wanted,hgd]
 rw[if_pos hw];obtain⟨v',w',hrun,h2,h3,h4⟩:=zHD (ty:=o.type) ht El hown hn hc h1 h63 hb hbase;unfold Oper.wp execOp;simp only[ho,resolve,invoke,builtin,Sem.run_bind,Sem.run_pure,Result.andThen_ok,List.map_toArray,List.map_cons,List.map_nil,hs,hx];rw[hrun];exact hK _ _ h2 h3 h4
theorem zAz{P:Program}{o:Oper}{a:Act}{w:World}{K:Act->World->Prop}{Q:Exit->Act->World->Prop}
  (s x:Operand)(t:TypeId)(ho:o.op= .call {callee:= .builtin .append,args:=#[s,x],argTypes:=#[t,t]})
  {base:Nat}{e:TypeId}{size bytes:Nat}(ht:P.underlying t=some (.slice e))(El:zCV P e size bytes){v:Value}{n:Nat}{xs:List Value}(hs:a.eval s=v)(hown:w.ownsRow base e size v n xs)
  {g m c off:Nat}(hx:a.eval x= .slice (some ⟨g,off,none⟩) m c){news:List Value}(hn:news.length=m*size)(hc:∀j u,news[j]? =some u->w.cell? ⟨g,off+j,none⟩=some u)(h1:∀u∈news,u.oneCell'=true)(h63:n+m≤maxLen)(hb:(n+m)*bytes≤140737488355328)(hbase:base≤w.heap.size)
  (hK:∀v' w',w'.ownsRow base e size v' (n+m) (xs++news)->w.grownBy w' v.ownBlock->(v'.ownBlock=v.ownBlock∨v'.ownBlock=some w.heap.size)->K (a.put o.dst v') w'):
  Oper.wp P o a w K Q:=by
 obtain⟨v',w',hrun,h2,h3,h4⟩:=zHD (ty:=o.type) ht El hown hn hc h1 h63 hb hbase;unfold Oper.wp execOp;simp only[ho,resolve,invoke,builtin,Sem.run_bind,Sem.run_pure,Result.andThen_ok,List.map_toArray,List.map_cons,List.map_nil,hs,hx];rw[hrun];exact hK _ _ h2 h3 h4
theorem zKG{P:Program}{o:Oper}{a:Act}{w:World}{K:Act->World->Prop}{Q:Exit->Act->World->Prop}
  (s x:Operand)(t:TypeId)(ho:o.op= .call {callee:= .builtin .append,args:=#[s,x],argTypes:=#[t,t]})
  {e:TypeId}{size bytes:Nat}(ht:P.underlying t=some (.slice e))(El:zCV P e size bytes){sb soff n cap:Nat}{olds:List Value}(hs:a.eval s= .slice (some ⟨sb,soff,none⟩) n cap)
  (hlo:olds.length=n*size)(holds:∀j u,olds[j]? =some u->w.cell? ⟨sb,soff+j,none⟩=some u)
  {g m c off:Nat}(hx:a.eval x= .slice (some ⟨g,off,none⟩) m c){news:List Value}(hn:news.length=m*size)(hc:∀j u,news[j]? =some u->w.cell? ⟨g,off+j,none⟩=some u)(hfull:cap<n+m)(h63:n+m≤maxLen)(hb:(n+m)*bytes≤140737488355328)
  (hK:∀v' w',w'.ownsRow w.heap.size e size v' (n+m) (olds++news)->w.grownBy w' none->K (a.put o.dst v') w'):
  Oper.wp P o a w K Q:=by
 obtain⟨hp,i,z,hi,hz,hsz,hby,hzs⟩:=El;have hadd:∀(B F j:Nat),(⟨B,F,none⟩:Addr).add j=⟨B,F+j,none⟩:=λB F j=>by unfold Addr.add;split<;>simp_all
 obtain⟨v',w',hrun,h2,h3⟩:=run_append_arg_grows (P:=P) w t o.type e i z size bytes ht hi hz hsz hby hzs hp ⟨sb,soff,none⟩ n cap olds hlo (λj u hu=>by rw[hadd];exact holds j u hu) ⟨g,off,none⟩ m c news hn (λj u hu=>by rw[hadd];exact hc j u hu) hfull h63 hb;unfold Oper.wp execOp;simp only[ho,resolve,invoke,builtin,Sem.run_bind,Sem.run_pure,Result.andThen_ok,List.map_toArray,List.map_cons,List.map_nil,hs,hx];rw[hrun];exact hK _ _ h2 h3
end Go.Proofs.YtonmdbdopchkaaaGreatDoor
