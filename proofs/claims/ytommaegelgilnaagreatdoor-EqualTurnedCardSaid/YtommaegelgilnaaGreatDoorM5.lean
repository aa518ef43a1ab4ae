/- Lemmas. -/
import Derived.Test.YtommaegelgilnaaGreatDoorM1
import Derived.Deep.MidRow
import Derived.Lib.Index
set_option linter.all false
namespace Go.Proofs.YtommaegelgilnaaGreatDoor
open Go.RowKit
variable {Z:zD}{a b x x0:Value}{c:List Int}{cs:Array Value}{ds:List zE}{f:Fm}{g i k:Nat}{hi kd lo:Int}{l:List Value}{nm s:ByteArray}{t:TypeId}{w:World}
def Blk(w:World)(g:Nat)(t:TypeId)(cs:Array Value):Prop:=w.heap[g]? =some (.cells cs t (0,0))
section
variable {w w':World} {g:Nat} {t:TypeId} {cs:Array Value}
theorem Blk.lt(h:Blk w g t cs):g<w.heap.size:=lt_of_block h
theorem Blk.cell(h:Blk w g t cs)(i:Nat):w.cell? ⟨g,i,none⟩=cs[i]? :=cell_of_row w g i cs t (0,0) h
theorem Blk.at0(h:Blk w g t (x::l).toArray):w.cell? ⟨g,0,none⟩=some x:=h.cell 0
theorem Blk.at1(h:Blk w g t (a::x::l).toArray):w.cell? ⟨g,1,none⟩=some x:=h.cell 1
theorem Blk.at2(h:Blk w g t (a::b::x::l).toArray):w.cell? ⟨g,2,none⟩=some x:=h.cell 2
theorem Blk.at3{a b c x:Value}(h:Blk w g t (a::b::c::x::l).toArray):w.cell? ⟨g,3,none⟩=some x:=h.cell 3
theorem Blk.at4{a b c d x:Value}(h:Blk w g t (a::b::c::d::x::l).toArray):w.cell? ⟨g,4,none⟩=some x:=h.cell 4
theorem Blk.frozen(h:Blk w g t cs)(i:Nat):w.frozen? ⟨g,i,none⟩=false:=by
 unfold Blk at h;simp[World.frozen?,h]
theorem Blk.c1(h:Blk w g t #[x0]):w.cell? ⟨g,0,none⟩=some x0/\w.frozen? ⟨g,0,none⟩=false/\g<w.heap.size:=⟨h.cell 0,h.frozen 0,h.lt⟩
theorem Blk.c2{a b:Value}(h:Blk w g t #[a,b]):w.cell? ⟨g,0,none⟩=some a/\w.frozen? ⟨g,0,none⟩=false/\w.cell? ⟨g,1,none⟩=some b/\w.frozen? ⟨g,1,none⟩=false/\g<w.heap.size:=⟨h.cell 0,h.frozen 0,h.cell 1,h.frozen 1,h.lt⟩
theorem Blk.c5{a b c d e:Value}(h:Blk w g t #[a,b,c,d,e]):w.cell? ⟨g,0,none⟩=some a/\w.frozen? ⟨g,0,none⟩=false/\w.cell? ⟨g,1,none⟩=some b/\w.frozen? ⟨g,1,none⟩=false/\w.cell? ⟨g,2,none⟩=some c/\w.frozen? ⟨g,2,none⟩=false/\w.cell? ⟨g,3,none⟩=some d/\w.frozen? ⟨g,3,none⟩=false/\w.cell? ⟨g,4,none⟩=some e/\w.frozen? ⟨g,4,none⟩=false/\g<w.heap.size:=⟨h.cell 0,h.frozen 0,h.cell 1,h.frozen 1,h.cell 2,h.frozen 2,h.cell 3,h.frozen 3,h.cell 4,h.frozen 4,h.lt⟩
theorem Blk.new(w:World)(t:TypeId)(cs:Array Value):Blk (w.alloc (.cells cs t)) w.heap.size t cs:=heap_alloc_new w _
theorem Blk.of_block(h:Blk w g t cs)(a:w'.heap[g]? =w.heap[g]?):Blk w' g t cs:=a.trans h
theorem Blk.drew(h:Blk w g t cs):Blk w.drew g t cs:=h
theorem Blk.drewN(h:Blk w g t cs)(n:Nat):Blk (w.drewN n) g t cs:=h
theorem Blk.alloc(h:Blk w g t cs)(o:Obj):Blk (w.alloc o) g t cs:=(Below.heap_alloc w o g h.lt).trans h
theorem Blk.set_(h:Blk w g t cs)(i:Nat)(u:Value):Blk (w.setCell ⟨g,i,none⟩ u) g t (cs.setIfInBounds i u):=by
 unfold Blk at h⊢;simp[World.setCell,Array.getElem?_modify,h]
theorem Blk.far(h:Blk w g t cs){p:Addr}(a:g≠p.block)(u:Value):Blk (w.setCell p u) g t cs:=(Below.heap_setCell w p u g a).trans h
theorem Blk.below{B:Nat}(h:Blk w g t cs)(a:Below B w w')(b:g<B):Blk w' g t cs:=(a.block g b).trans h
theorem Blk.keep(h:Blk w g t cs)(a:zA Z w w')(b:Z g):Blk w' g t cs:=(a.block g h.lt b).trans h
theorem Blk.ne_{d:Nat}{e:TypeId}{b:Array Value}(h:Blk w g t cs)(a:Blk w d e b)(c:t≠e):g≠d:=by
 rintro rfl;unfold Blk at h a;rw[h]at a;injection a with a;injection a with _ ht;exact c ht
theorem Blk.there(h:Blk w g t cs):w.there g 0 cs.size:=λj a=>by
 rw[Nat.zero_add];exact⟨by rw[h.cell];simp[a],h.frozen j⟩
end
theorem zAN(g:Nat):∀(a:List Value)(o:Nat)(w:World)(k:Nat),k≠g->(w.setCells g o a).heap[k]? =w.heap[k]?
 |[],_,_,_,_=>rfl
 |v::r,o,w,k,h=>by
  unfold World.setCells;rw[zAN g r (o+1) _ k h,Below.heap_setCell _ _ _ _ (by simpa using h)]
theorem size_setCells(g:Nat):∀(a:List Value)(o:Nat)(w:World),(w.setCells g o a).heap.size =w.heap.size/\(w.setCells g o a).os =w.os/\(w.setCells g o a).tape =w.tape/\(w.setCells g o a).output =w.output
 |[],_,_=>⟨rfl,rfl,rfl,rfl⟩
 |v::r,o,w=>by
  unfold World.setCells;obtain⟨b,c,d,e⟩:=size_setCells g r (o+1) (w.setCell ⟨g,o,none⟩ v);exact⟨b.trans (by simp[World.setCell]),c,d,e⟩
def zC0(cs:Array Value):List Value->Nat->Array Value
 |[],_=>cs
 |v::r,o=>zC0 (cs.setIfInBounds o v) r (o+1)
theorem Blk.setCells{g:Nat}{t:TypeId}:∀(a:List Value)(o:Nat)(w:World)(cs:Array Value),Blk w g t cs->Blk (w.setCells g o a) g t (zC0 cs a o)
 |[],_,_,_,h=>h
 |v::r,o,w,cs,h=>by
  unfold World.setCells zC0;exact Blk.setCells r (o+1) _ _ (h.set_ o v)
theorem zCJ:∀(a:List Value)(o:Nat)(cs:Array Value),o+a.length<=cs.size->∀j,(zC0 cs a o)[j]? =if o<=j/\j<o+a.length then a[j-o]? else cs[j]?
 |[],o,cs,_,j=>by simp[zC0];omega
 |v::r,o,cs,h,j=>by
  simp only[List.length_cons]at h;unfold zC0;rw[zCJ r (o+1) _ (by simp;omega) j];by_cases b:o+1<=j/\j<o+1+r.length
  ·rw[if_pos b,if_pos (by simp;omega),show j-o=(j-(o+1))+1 from by omega];simp
  rw[if_neg b];by_cases c:j=o
  ·subst c;rw[if_pos ⟨Nat.le_refl _,by simp only[List.length_cons];omega⟩,Nat.sub_self,Array.getElem?_setIfInBounds_self_of_lt (by omega)];rfl
  rw[if_neg (by simp;omega),Array.getElem?_setIfInBounds_ne (by omega)]
theorem zHX{a:List Value}(h:a.length=cs.size):zC0 cs a 0=a.toArray:=by
 apply Array.ext_getElem?;intro j;rw[zCJ a 0 cs (by omega) j];by_cases b:j<a.length
 ·rw[if_pos (by omega)];simp
 rw[if_neg (by omega)];simp[Array.getElem?_eq_none (xs:=cs) (i:=j) (by omega)];omega
section laws
variable {P:Program} {ops:Array Oper} {rest:List Oper} {o:Oper} {a:Act} {w:World} {Q:Exit->Act->World->Prop}
theorem zN(d:o.guard=none)(ty:TypeId)(x y:Operand)(n:o.op= .store ty x y){cs cells:Array Value}(q:a.eval x= .pointer (some ⟨g,0,none⟩))(s:a.eval y= .agg cells)
  (e:Blk w g t cs)(f:cs.size=cells.size)(hi:(P.info? ty).map (·.size)=some cells.size)(j:cells.all (·.oneCell')=true)
  (h:∀c,Blk c g t cells->zA (λb=>b≠g) w c->c.heap.size=w.heap.size->wpList P ops Q rest (a.put o.dst undef) c):wpList P ops Q (o::rest) a w:=by
 refine wpList_store_mid d ty x y n g 0 cells q s (f▸e.there) hi j ?_;obtain⟨i,u,v,z⟩:=size_setCells g cells.toList 0 w;refine h _ ?_ ⟨u,v,z,Nat.le_of_eq i.symm,λk _ m=>zAN g _ 0 w k m⟩ i;have:=Blk.setCells cells.toList 0 w cs e;rwa[zHX (by simpa using f.symm),Array.toArray_toList]at this
theorem zDq(b:o.guard=none)(ty:TypeId)(x:Operand)(f:o.op= .load ty x)(j:a.eval x= .pointer (some ⟨g,0,none⟩))(c:Blk w g t cs)(d:TypeDesc)
  (i:P.underlying ty=some d)(e:(match d with| .struct _ | .array _ _=>true| _=>false)=true)(hi:(P.info? ty).map (·.size)=some cs.size)
  (h:wpList P ops Q rest (a.put o.dst (.agg cs)) w):wpList P ops Q (o::rest) a w:=
 wpList_load_row b ty x f g j t cs (0,0) d c i e hi h
end laws
theorem zCX(w:World)(o p:Obj):Bw w ((w.alloc o).alloc p):=(zG w o).alloc (by simp) p
theorem zIQ{base a:Nat}{e:TypeId}{b n:Nat}{v:Value}{xs:List Value}(h:w.ownsRow base e b v n xs)(j:a<=base):w.ownsRow a e b v n xs:=by
 refine⟨h.1,?_⟩;rcases h.2 with k|⟨g,c,d,f,i,r⟩
 ·exact .inl k
 exact .inr ⟨g,c,d,f,Nat.le_trans j i,r⟩
section kv
variable {κ:Type} [DecidableEq κ]
def zAA:List (κ × Value)->κ->Option Value
 |[],_=>none
 |p::r,x=>if x=p.1 then some p.2 else zAA r x
def zBu:List (κ × Value)->κ->Nat->Option (Nat × Value)
 |[],_,_=>none
 |p::r,x,i=>if x=p.1 then some (i,p.2)else zBu r x (i+1)
def zAq:List (κ × Value)->κ->Value->List (κ × Value)
 |[],x,v=>[(x,v)]
 |p::r,x,v=>if x=p.1 then(p.1,v)::r else p::zAq r x v
theorem zQr(l:List (κ × Value))(x:κ):∀i,(zBu l x i).map (·.2)=zAA l x:=by
 induction l with
 |nil=>intro i;rfl
 |cons p r ih=>
 intro i;unfold zBu zAA;split
 ·rfl
 exact ih (i+1)
theorem zF6(l:List (κ × Value))(x:κ)(v:Value):zAA (zAq l x v) x=some v:=by
 induction l with
 |nil=>simp[zAq,zAA]
 |cons p r ih=>
 unfold zAq;split
 ·rename_i h;simp[zAA,h]
 rename_i h;simp[zAA,h,ih]
theorem zDr{x y:κ}(h:y≠x)(l:List (κ × Value))(v:Value):zAA (zAq l x v) y=zAA l y:=by
 induction l with
 |nil=>simp[zAq,zAA,h]
 |cons p r ih=>
 unfold zAq;split
 ·rename_i e;subst e;simp[zAA,h]
 simp[zAA,ih]
end kv
structure zFP (P:Program) (k:TypeId) {κ:Type} [DecidableEq κ] (enc:κ->Value):Prop where
 check:∀(w:World)(em:Bool)(x:κ),(Instr.checkKey em 10000 k (enc x)).run P w= .ok () w
 find:∀(w:World)(x:κ)(es:List MapEntry)(kv:List (κ × Value)),es.map (λe=>(e.key,e.val))=kv.map (λp=>(enc p.1,p.2))->
  (Instr.findKey k (enc x) es).run P w= .ok (zBu kv x 0) w
 stays:∀(w:World)(x:κ),(Instr.keyThatStays (enc x) (enc x)).run P w= .ok (enc x) w
def zS{κ:Type}(enc:κ->Value)(w:World)(b:Nat)(kv:List (κ × Value)):Prop:=
 ∃es clock,w.heap[b]? =some (.map es clock)/\es.toList.map (λe=>(e.key,e.val))=kv.map (λp=>(enc p.1,p.2))
section laws
variable {P:Program} {κ:Type} [DecidableEq κ] {enc:κ->Value} {t k e:TypeId} {w:World} {b:Nat} {kv:List (κ × Value)}
omit [DecidableEq κ] in
theorem zS.lt(h:zS enc w b kv):b<w.heap.size:=by
 obtain⟨d,a,c,_⟩:=h;exact(Array.getElem?_eq_some_iff.1 c).1
omit [DecidableEq κ] in
theorem zS.made(w:World)(enc:κ->Value):zS enc (w.alloc (.map #[] 0)) w.heap.size []:=
 ⟨#[],0,heap_alloc_new w _,rfl⟩
omit [DecidableEq κ] in
theorem zS.of_block{w':World}(h:zS enc w b kv)(f:w'.heap[b]? =w.heap[b]?):zS enc w' b kv:=by
 obtain⟨c,a,d,e⟩:=h;exact⟨c,a,f.trans d,e⟩
theorem zS.look(h:zS enc w b kv)(K:zFP P k enc)(i:P.underlying t=some (.map k e)){z:Value}(n:(zeroValue e).run P w= .ok z w)(x:κ)(c:Bool):
  (Instr.lookup t (.map (some b)) (enc x) c).run P w= .ok (if c then .tuple #[(zAA kv x).getD z,.bool (zAA kv x).isSome]else(zAA kv x).getD z) w:=by
 obtain⟨j,d,f,m⟩:=h;have a:=K.find w x j.toList kv m;rw[<-zQr kv x 0]
 cases g:zBu kv x 0 with
 |none=>rw[g]at a;simp[Instr.lookup,run_underlying i,MapKept.run_getObj_map f,K.check w _ x,a,n,Result.andThen]
 |some r=>rw[g]at a;simp[Instr.lookup,run_underlying i,MapKept.run_getObj_map f,K.check w _ x,a,Result.andThen]
theorem zLY(a:List MapEntry)(c:List (κ × Value))(d:a.map (λe=>(e.key,e.val))=c.map (λp=>(enc p.1,p.2)))(x:κ)(v:Value):
  ∀i j(u:Value),zBu c x i=some (j,u)->i<=j/\(a[j-i]?).map (·.key)=some (enc x)/\(a.modify (j-i) λe=>{e with key:=enc x,val:=v}).map (λe=>(e.key,e.val))=(zAq c x v).map (λp=>(enc p.1,p.2)):=by
 induction c generalizing a with
 |nil=>intro i j u h;simp[zBu]at h
 |cons p r ih=>
 intro i j u h
 cases a with
 |nil=>simp at d
 |cons e0 a=>
 simp only[List.map_cons,List.cons.injEq]at d;obtain⟨g,k⟩:=d;unfold zBu at h;unfold zAq;by_cases b:x=p.1
 ·rw[if_pos b]at h⊢;injection h with h;injection h with hj hu;subst hj;have o:e0.key=enc p.1:=by injection g
  refine⟨Nat.le_refl _,?_,?_⟩
  ·simp[o,b]
  simp[b,k]
 rw[if_neg b]at h⊢;obtain⟨q,m,n⟩:=ih a k (i+1) j u h;have f:j-i=(j-(i+1))+1:=by omega
 refine⟨by omega,?_,?_⟩
 ·rw[f];simpa using m
 rw[f,List.modify_succ_cons,List.map_cons,List.map_cons,n,g]
theorem zLZ{x:κ}(v:Value):∀{kv:List (κ × Value)}{i:Nat},zBu kv x i=none->zAq kv x v=kv++[(x,v)]
 |[],_,_=>rfl
 |p::r,i,h=>by
  unfold zBu at h;unfold zAq;split at h
  ·cases h
  rename_i hx;rw[if_neg hx,zLZ v h];rfl
theorem zS.store(h:zS enc w b kv)(K:zFP P k enc)(I:P.underlying t=some (.map k e))(x:κ)(v:Value):
  ∃n,(Instr.mapUpdate t (.map (some b)) (enc x) v).run P w= .ok () n/\zS enc n b (zAq kv x v)/\zA (λc=>c≠b) w n/\n.heap.size=w.heap.size/\(∀a,n.cell? a=w.cell? a)/\(∀a,n.frozen? a=w.frozen? a):=by
 obtain⟨o,g,m,F⟩:=h;have s:=K.find w x o.toList kv F;have L:=(Array.getElem?_eq_some_iff.1 m).1
 have q:∀f d,(∀a,(ChangeMaps.setBlock w b (.map f d)).cell? a=w.cell? a)/\(∀a,(ChangeMaps.setBlock w b (.map f d)).frozen? a=w.frozen? a)/\zA (λc=>c≠b) w (ChangeMaps.setBlock w b (.map f d))/\(ChangeMaps.setBlock w b (.map f d)).heap.size =w.heap.size/\(ChangeMaps.setBlock w b (.map f d)).heap[b]? =some (.map f d):=by
  intro f d
  have y:∀c,(ChangeMaps.setBlock w b (.map f d)).heap[c]? =if b=c then some (.map f d)else w.heap[c]? :=by
   intro c;simp only[ChangeMaps.setBlock,Array.getElem?_setIfInBounds];split
   ·rename_i i;subst i;simp
   rfl
  refine⟨λa=> ?_,λa=> ?_,⟨rfl,rfl,rfl,by simp[ChangeMaps.setBlock],λc _ i=> ?_⟩,by simp[ChangeMaps.setBlock],?_⟩
  ·unfold World.cell?;rw[y];by_cases i:b=a.block
   ·rw[if_pos i,<-i,m]
   rw[if_neg i]
  ·unfold World.frozen?;rw[y];by_cases i:b=a.block
   ·rw[if_pos i,<-i,m]
   rw[if_neg i]
  ·rw[y,if_neg (λe=>i e.symm)]
  rw[y,if_pos rfl]
 cases z:zBu kv x 0 with
 |none=>
  rw[z]at s;obtain⟨A,B,C,D,E⟩:=q (o.push {key:=enc x,val:=v,born:=g}) (g+1);refine⟨_,by simp[Instr.mapUpdate,run_underlying I,MapKept.run_getObj_map m,K.check w _ x,s,MapKept.run_setObj_map _ m,Result.andThen];rfl,⟨_,_,E,?_⟩,C,D,A,B⟩;rw[zLZ v z];simp[F]
 |some r=>
 obtain⟨j,u⟩:=r;rw[z]at s;obtain⟨_,G,H⟩:=zLY o.toList kv F x v 0 j u z;simp only[Nat.sub_zero]at G H;have J:o[j]?.map (·.key)=some (enc x):=by simpa using G
 obtain⟨A,B,C,D,E⟩:=q (o.modify j λe=>{e with key:=enc x,val:=v}) g;refine⟨_,by simp[Instr.mapUpdate,run_underlying I,MapKept.run_getObj_map m,K.check w _ x,s,J,K.stays,MapKept.run_setObj_map _ m,Result.andThen];rfl,⟨_,_,E,?_⟩,C,D,A,B⟩;simpa using H
theorem zA6{ops:Array Oper}{rest:List Oper}{o:Oper}{a:Act}{Q:Exit->Act->World->Prop}(z:o.guard=none)(m x y:Operand)(i:o.op=Op.mapUpdate t m x y)
  (K:zFP P k enc)(B:P.underlying t=some (.map k e))(A:a.eval m= .map (some b))(h:zS enc w b kv)(key:κ)(C:a.eval x=enc key)
  (v:∀d,zS enc d b (zAq kv key (a.eval y))->zA (λc=>c≠b) w d->d.heap.size=w.heap.size->(∀a,d.cell? a=w.cell? a)->(∀a,d.frozen? a=w.frozen? a)->wpList P ops Q rest (a.put o.dst undef) d):
  wpList P ops Q (o::rest) a w:=by
 refine wpList_plain z λD g=> ?_
 obtain⟨d,f,j,n,q,s,u⟩:=h.store K B key (a.eval y);unfold Oper.wp;simp[execOp,i,A,C,f,Result.andThen];exact g _ _ (v d j n q s u)
end laws
section kinds
variable {P:Program} {k:TypeId}
theorem zOR{κ:Type}[DecidableEq κ]{enc:κ->Value}{d:TypeDesc}(b:∀x y:κ,Instr.sameNow d (enc x) (enc y)=some (decide (x=y)))(x:κ):
  ∀(a:List MapEntry)(kv:List (κ × Value))(i:Nat),a.map (λe=>(e.key,e.val))=kv.map (λp=>(enc p.1,p.2))->Instr.findNow d (enc x) a i=some (zBu kv x i)
 |[],[],_,_=>rfl
 |[],_::_,_,h=>by simp at h
 | _::_,[],_,h=>by simp at h
 |e::a,p::kv,i,h=>by
  simp only[List.map_cons,List.cons.injEq,Prod.mk.injEq]at h;obtain⟨⟨f,g⟩,j⟩:=h;unfold Instr.findNow zBu;rw[f,b];by_cases c:x=p.1
  ·simp[c,g]
  simp[c,zOR b x a kv (i+1) j]
theorem zMg{κ:Type}[DecidableEq κ]{enc:κ->Value}{d:TypeDesc}(c:P.underlying k=some d)(e:∀x y:κ,Instr.sameNow d (enc x) (enc y)=some (decide (x=y)))
  (b:∀(w:World)(a:Bool)(x:κ),(Instr.checkKey a 10000 k (enc x)).run P w= .ok () w)(f:∀x:κ,Instr.sameBits 10000 (enc x) (enc x)=true):zFP P k enc where
 check:=b
 find w x es kv h:=by
  simp[Instr.findKey,run_underlying c,zOR e x es kv 0 h]
 stays w x:=by simp[Instr.keyThatStays,f]
def encS(s:ByteArray):Value:= .string s
def encI(n:Int):Value:= .int .i64 n
def zE2(p:Int × Int):Value:= .agg #[.int .i64 p.1,.int .i64 p.2]
theorem zAK(a:P.underlying k=some .string):zFP P k encS:=
 zMg a (λx y=>by
  simp only[encS,Instr.sameNow];congr 1;rw[Bool.eq_iff_iff,MapKept.bytes_beq];simp) (λw b x=>MapKept.run_checkKey a (by simp[encS,MapKept.IsKey]) b 9999) (λx=>by
  simp only[encS,Instr.sameBits];exact(MapKept.bytes_beq x x).2 rfl)
theorem zJR(a:P.underlying k=some (.int .i64)):zFP P k encI:=
 zMg a (λx y=>by simp only[encI,Instr.sameNow];simp;rw[Bool.eq_iff_iff];simp) (λw b x=>MapKept.run_checkKey a (by simp[encI,MapKept.IsKey]) b 9999) (λx=>by simp[encI,Instr.sameBits])
end kinds
def zBy(c:UInt8):Bool:=decide (97<=c.toNat/\c.toNat<=122)||decide (65<=c.toNat/\c.toNat<=90)
def zGR(c:UInt8):Bool:=decide (48<=c.toNat/\c.toNat<=57)||decide (c.toNat=95)
def zFQ(l:List UInt8)(i:Nat):Bool:=match l[i]? with|none=>false|some c=>zBy c||(i !=0&&zGR c)
def zGl(l:List UInt8)(k:Nat):Prop:=∀j,j<k->zFQ l j=true
def zB6(l:List UInt8):Bool:=match l with
 |[]=>false
 |c::r=>zBy c&&r.all (λc=>zBy c||zGR c)&&decide (l.length<=24)
theorem zJS(a:k<s.size):zFQ s.data.toList k=decide ((97<=(s[k].toNat :Int)/\(s[k].toNat :Int)<=122)\/(65<=(s[k].toNat :Int)/\(s[k].toNat :Int)<=90)\/(0<k/\((48<=(s[k].toNat :Int)/\(s[k].toNat :Int)<=57)\/(s[k].toNat :Int)=95))):=by
 unfold zFQ;have b:k<s.data.toList.length:=by simpa using a
 rw[List.getElem?_eq_getElem b];have e:s.data.toList[k]=s[k]:=by simp;rfl
 simp only[e,zBy,zGR];rw[Bool.eq_iff_iff];simp;omega
theorem zHY(l:List UInt8):zGl l 0:=λj h=>absurd h (Nat.not_lt_zero j)
theorem zCK{l:List UInt8}(h:zGl l k)(c:zFQ l k=true):zGl l (k+1):=λj b=>by
 rcases Nat.lt_succ_iff_lt_or_eq.1 b with a|rfl
 ·exact h j a
 exact c
theorem zGm{l:List UInt8}(a:k<l.length)(h:zFQ l k=false):zB6 l=false:=by
 unfold zFQ at h;rw[List.getElem?_eq_getElem a]at h;simp only at h
 cases l with
 |nil=>rfl
 |cons c r=>
 unfold zB6
 cases k with
 |zero=>simp at h;simp[h]
 |succ k=>
 have d:k<r.length:=by simpa using a
 have b:¬((zBy r[k]||zGR r[k])=true):=by simpa using h
 have:(r.all λc=>zBy c||zGR c)=false:=by
  rw[List.all_eq_false];exact⟨r[k],List.getElem_mem _,b⟩
 show(zBy c&&(r.all λc=>zBy c||zGR c)&&_)=false;rw[this];simp
theorem zIR{l:List UInt8}(h:zGl l l.length):zB6 l=(decide (l≠[])&&decide (l.length<=24)):=by
 cases l with
 |nil=>rfl
 |cons c r=>
 have a:=h 0 (by simp)
 have d:(r.all λc=>zBy c||zGR c)=true:=by
  rw[List.all_eq_true];intro x b;obtain⟨i,hi,rfl⟩:=List.getElem_of_mem b;have:=h (i+1) (by simpa using hi);unfold zFQ at this;rw[List.getElem?_eq_getElem (by simpa using hi)]at this;simpa using this
 unfold zFQ at a;simp at a;simp[zB6,a];exact λ_ x b=>by have:=(List.all_eq_true.1 d) x b;simpa using this
def zCY(f:zE):Bool:=
 ((f.kind==1&&f.lo==0&&f.hi==1)||(f.kind==2&&decide (0<=f.lo)&&decide (f.lo<=f.hi)&&decide (f.hi<=1000000)))&&zB6 f.name.data.toList
def names(ds:List zE):List ByteArray:=ds.map (·.name)
def zT(ds:List zE):Bool:=ds.all zCY&&decide (names ds).Nodup &&decide (ds.length<=60)
def zIS(ds:List zE)(k:Nat):Prop:=(∀f∈ds.take k,zCY f=true)/\(names (ds.take k)).Nodup
theorem zQs(ds:List zE):zIS ds 0:=by simp[zIS,names]
theorem zXN{α:Type}{l:List α}(a:k<l.length):l.take (k+1)=l.take k++[l[k]]:=by
 rw[List.take_succ_eq_append_getElem a]
theorem zQt(g:k<ds.length)(h:zIS ds k)(i:zCY ds[k]=true)(j:ds[k].name ∉names (ds.take k)):zIS ds (k+1):=by
 refine⟨λf c=> ?_,?_⟩
 ·rw[zXN g,List.mem_append]at c;rcases c with c|c
  ·exact h.1 f c
  simp at c;rw[c];exact i
 rw[zXN g];simp only[names,List.map_append,List.map_cons,List.map_nil];rw[List.nodup_append];refine⟨h.2,by simp,λa m b d=> ?_⟩;simp at d;subst d;exact λe=>j (e▸m)
theorem zOS(b:k<ds.length)(h:zCY ds[k]=false\/ds[k].name ∈names (ds.take k)):zT ds=false:=by
 rcases h with h|h
 ·have:ds.all zCY=false:=by rw[List.all_eq_false];exact⟨ds[k],List.getElem_mem _,by simp[h]⟩
  simp[zT,this]
 have a:¬(names ds).Nodup :=by
  intro a;have e:ds=ds.take k++ds[k]::ds.drop (k+1):=by rw[<-List.drop_eq_getElem_cons b];exact(List.take_append_drop k ds).symm
  rw[e]at a;simp only[names,List.map_append,List.map_cons]at a;rw[List.nodup_append]at a;exact a.2.2 _ h _ (List.mem_cons_self ..) rfl
 simp[zT,a]
theorem zOT(h:zIS ds ds.length):zT ds=decide (ds.length<=60):=by
 unfold zIS at h;rw[List.take_length]at h;have:ds.all zCY=true:=List.all_eq_true.2 h.1;simp[zT,this,h.2]
theorem zTN(h:true=(!(kd==1&&lo==0&&hi==1)&& !(kd==2&&decide (0<=lo)&&decide (lo<=hi)&&decide (hi<=1000000)))):zCY ⟨nm,kd,lo,hi⟩=false:=by
 have a:=h.symm;rw[Bool.and_eq_true,Bool.not_eq_true',Bool.not_eq_true']at a;unfold zCY;simp only[a.1,a.2,Bool.or_self,Bool.false_and]
theorem zNB(h:zB6 nm.data.toList=false):zCY ⟨nm,kd,lo,hi⟩=false:=by
 simp[zCY,h]
theorem zSN(h:false=(!(kd==1&&lo==0&&hi==1)&& !(kd==2&&decide (0<=lo)&&decide (lo<=hi)&&decide (hi<=1000000))))(b:zB6 nm.data.toList=true):zCY ⟨nm,kd,lo,hi⟩=true:=by
 have a:=h.symm;rw[Bool.and_eq_false_iff,Bool.not_eq_false',Bool.not_eq_false']at a;unfold zCY;rw[b,Bool.and_true,Bool.or_eq_true];exact a
theorem zBK(a b:ByteArray):(a.toList==b.toList)=decide (a=b):=by
 rw[Bool.eq_iff_iff,ByteArray.toList_eq,ByteArray.toList_eq];simp only[beq_iff_eq,decide_eq_true_eq];constructor
 ·intro h;cases a;cases b;congr 1;exact Array.toList_inj.1 h
 rintro rfl;rfl
def zFR(ds:List zE)(nm:ByteArray)(i:Nat):Bool:=match ds[i]? with|some f=>decide (f.name=nm)|none=>false
def zBD(ds:List zE)(nm:ByteArray):Int:=firstIdx (zFR ds nm) ds.length 0
def inR(f:zE)(x:Int):Bool:=decide (f.lo<=x)&&decide (x<=f.hi)
def fits(ds:List zE)(c:List Int):Bool:=zT ds&&decide (c.length=ds.length)&&(ds.zip c).all λp=>inR p.1 p.2
def zL0(ds:List zE)(c:List Int)(k:Nat):Prop:=∀j(h1:j<ds.length)(h2:j<c.length),j<k->inR ds[j] c[j]=true
theorem zQu(ds:List zE)(c:List Int):zL0 ds c 0:=λ_ _ _ h=>absurd h (Nat.not_lt_zero _)
theorem zQv(h:zL0 ds c k)(f:k<ds.length)(g:k<c.length)(d:inR ds[k] c[k]=true):zL0 ds c (k+1):=λj a b i=>by
 by_cases e:j=k
 ·subst e;exact d
 exact h j a b (by omega)
theorem zTO(d:zT ds=true)(a:c.length=ds.length)(h:zL0 ds c ds.length):fits ds c=true:=by
 unfold fits;rw[d,a];simp only[decide_true,Bool.true_and];rw[List.all_eq_true];intro p b;obtain⟨i,hi,rfl⟩:=List.getElem_of_mem b;simp only[List.length_zip,a]at hi;rw[List.getElem_zip];exact h i (by omega) (by omega) (by omega)
theorem zTP(d:k<ds.length)(e:k<c.length)(a:inR ds[k] c[k]=false):fits ds c=false:=by
 unfold fits
 have:((ds.zip c).all λp=>inR p.1 p.2)=false:=by
  rw[List.all_eq_false]
  exact⟨(ds[k],c[k]),by
   have b:(ds.zip c)[k]'(by simp;omega)=(ds[k],c[k]):=List.getElem_zip
   rw[<-b];exact List.getElem_mem _,by simp[a]⟩
 rw[this];simp
def zCG(ds:List zE):List Int:=if zT ds=true then ds.map zE.lo else[]
theorem zDk(h:zT ds=true):zCG ds=ds.map zE.lo:=if_pos h
theorem zQw(h:zT ds=false):zCG ds=[]:=if_neg (by simp[h])
namespace Fm
def op:Fm->Int| .mk o _ _ _ _=>o
def name:Fm->ByteArray| .mk _ n _ _ _=>n
def cmp:Fm->Int| .mk _ _ c _ _=>c
def num:Fm->Int| .mk _ _ _ n _=>n
def kids:Fm->List Fm| .mk _ _ _ _ k=>k
end Fm
theorem FmR.form{cs:List Value}(h:FmR Z w f cs):∃A cap,cs=[.int .i64 f.op,.string f.name,.int .i64 f.cmp,.int .i64 f.num,.slice A f.kids.length cap]:=by
 obtain⟨op,nm,c,n,a⟩:=f;unfold FmR at h;obtain⟨_,_,_,_,A,cap,e,_⟩:=h;exact⟨A,cap,e⟩
mutual
def zH:Fm->Nat
 | .mk _ _ _ _ ks=>1+zV ks
def zV:List Fm->Nat
 |[]=>0
 |k::r=>zH k+zV r
end
mutual
def zCv:Fm->Nat
 | .mk _ _ _ _ ks=>1+zBE ks
def zBE:List Fm->Nat
 |[]=>0
 |k::r=>max (zCv k) (zBE r)
end
theorem zCQ(f:Fm):zH f=1+zV f.kids:=by cases f;rw[zH];rfl
theorem zMh(f:Fm):zCv f=1+zBE f.kids:=by cases f;rw[zCv];rfl
theorem zCH(f:Fm):0<zH f:=by rw[zCQ];omega
theorem zI4(l m:List Fm):zV (l++m)=zV l+zV m:=by
 induction l with
 |nil=>simp[zV]
 |cons a r ih=>simp only[List.cons_append,zV,ih];omega
theorem zHc(l m:List Fm):zBE (l++m)=max (zBE l) (zBE m):=by
 induction l with
 |nil=>simp[zBE]
 |cons a r ih=>simp only[List.cons_append,zBE,ih];omega
theorem zBX{l:List Fm}(a:k<l.length):zV (l.take (k+1))=zV (l.take k)+zH l[k]:=by
 rw[zXN a,zI4];simp[zV]
theorem zGE{l:List Fm}(a:k<l.length):zBE (l.take (k+1))=max (zBE (l.take k)) (zCv l[k]):=by
 rw[zXN a,zHc];simp[zBE]
theorem zB3(l:List Fm)(k:Nat):zV (l.take k)<=zV l:=by
 have:=zI4 (l.take k) (l.drop k);rw[List.take_append_drop]at this;omega
theorem zHI(l:List Fm)(k:Nat):zBE (l.take k)<=zBE l:=by
 have:=zHc (l.take k) (l.drop k);rw[List.take_append_drop]at this;omega
theorem zBz{l:List Fm}(a:k<l.length):zH l[k]<=zV l:=by
 have b:=zBX a;have c:=zB3 l (k+1);omega
theorem zFr(a:k<f.kids.length):zH f.kids[k]<zH f:=by
 have:=zBz a;rw[zCQ f];omega
theorem zSO{l:List Fm}(a:k<l.length):zCv l[k]<=zBE l:=by
 have b:=zGE a;have c:=zHI l (k+1);omega
theorem zCA(l:List Fm):l.length<=zV l:=by
 induction l with
 |nil=>simp[zV]
 |cons a r ih=>have:=zCH a;simp only[List.length_cons,zV];omega
mutual
theorem zHJ:∀f:Fm,zCv f<=zH f
 | .mk _ _ _ _ ks=>by rw[zCv,zH];have:=zGF ks;omega
theorem zGF:∀l:List Fm,zBE l<=zV l
 |[]=>by simp[zBE]
 |k::r=>by rw[zBE,zV];have:=zHJ k;have:=zGF r;have:=zCH k;omega
end
mutual
def zA0(L:Fm->Int):Fm->Int
 | .mk o nm c n ks=>if L (.mk o nm c n ks)=0 then zAZ L ks else L (.mk o nm c n ks)
def zAZ(L:Fm->Int):List Fm->Int
 |[]=>0
 |k::r=>if zA0 L k=0 then zAZ L r else zA0 L k
end
theorem zFd(L:Fm->Int)(f:Fm):zA0 L f=if L f=0 then zAZ L f.kids else L f:=by cases f;rw[zA0];rfl
theorem zGn(L:Fm->Int)(l m:List Fm):zAZ L (l++m)=if zAZ L l=0 then zAZ L m else zAZ L l:=by
 induction l with
 |nil=>simp[zAZ]
 |cons a r ih=>
 simp only[List.cons_append,zAZ];by_cases h:zA0 L a=0
 ·simp only[h,if_true,ih]
 simp only[if_neg h]
theorem zI5(L:Fm->Int){l:List Fm}(a:k<l.length):zAZ L (l.take (k+1))=if zAZ L (l.take k)=0 then zA0 L l[k]else zAZ L (l.take k):=by
 rw[zXN a,zGn];congr 1;simp only[zAZ];split<;>simp_all
theorem zI6(L:Fm->Int){l:List Fm}(h:zAZ L (l.take k)≠0):zAZ L l=zAZ L (l.take k):=by
 have:=zGn L (l.take k) (l.drop k);rw[List.take_append_drop,if_neg h]at this;exact this
def zDs(L:Fm->Int)(f:Fm)(k:Nat):Int:=if L f=0 then zAZ L (f.kids.take k)else L f
theorem zQx(L:Fm->Int)(f:Fm):zDs L f 0=L f:=by unfold zDs;split<;>simp_all [zAZ]
theorem zQy(L:Fm->Int)(b:k<f.kids.length)(h:zDs L f k=0):zDs L f (k+1)=zA0 L f.kids[k]:=by
 unfold zDs at h⊢;by_cases a:L f=0
 ·rw[if_pos a]at h⊢;rw[zI5 L b,if_pos h]
 rw[if_neg a]at h;exact absurd h a
theorem zQz(L:Fm->Int)(h:zDs L f k≠0):zA0 L f=zDs L f k:=by
 rw[zFd];unfold zDs at h⊢;by_cases a:L f=0
 ·rw[if_pos a]at h⊢;rw[if_pos a];exact zI6 L h
 rw[if_neg a,if_neg a]
theorem zSP(L:Fm->Int)(f:Fm):zDs L f f.kids.length=zA0 L f:=by
 unfold zDs;rw[zFd,List.take_length]
def zDl(f:Fm):Bool:=decide (200<zH f)||decide (20<zCv f)
def zCb(b:UInt8):Int:=
 if(97<=b.toNat/\b.toNat<=122)\/(65<=b.toNat/\b.toNat<=90)then 3
 else if 48<=b.toNat/\b.toNat<=57 then 4
 else if b.toNat=95 then 5
 else if b.toNat=32\/b.toNat=9\/b.toNat=10 then 1
 else if b.toNat=35 then 2
 else if b.toNat=34 then 6
 else if b.toNat=33 then 7
 else if b.toNat=60\/b.toNat=62 then 8
 else if b.toNat=59\/b.toNat=44\/b.toNat=46\/b.toNat=58\/b.toNat=40\/b.toNat=41\/b.toNat=91\/b.toNat=93\/b.toNat=123\/b.toNat=125\/b.toNat=61\/b.toNat=43\/b.toNat=45 then 9
 else 0
def zCI(cur:Array Int)(s:List UInt8)(c:Int):Array Int:=s.foldl (λa b=>a.setIfInBounds b.toNat c) cur
theorem zBv(s:List UInt8)(c:Int):∀cur:Array Int,(zCI cur s c).size =cur.size:=by
 induction s with
 |nil=>intro cur;rfl
 |cons b r ih=>intro cur;show(zCI (cur.setIfInBounds b.toNat c) r c).size =_;rw[ih];simp
theorem zOU(cur:Array Int)(s:List UInt8)(b:UInt8)(c:Int):zCI cur (s++[b]) c=(zCI cur s c).setIfInBounds b.toNat c:=by
 simp[zCI,List.foldl_append]
def zDX:Array Int:=Array.replicate 256 0
def zGD:=zCI zDX [97,98,99,100,101,102,103,104,105,106,107,108,109,110,111,112,113,114,115,116,117,118,119,120,121,122,65,66,67,68,69,70,71,72,73,74,75,76,77,78,79,80,81,82,83,84,85,86,87,88,89,90] 3
def zGo:=zCI zGD [48,49,50,51,52,53,54,55,56,57] 4
def zHZ:=zCI zGo [95] 5
def zIT:=zCI zHZ [32,9,10] 1
def zJT:=zCI zIT [35] 2
def zKZ:=zCI zJT [34] 6
def zLv:=zCI zKZ [33] 7
def zOV:=zCI zLv [60,62] 8
def zFS:=zCI zOV [59,44,46,58,40,41,91,93,123,125,61,43,45] 9
theorem zTQ:∀i:Fin 256,zFS[i.val]? =some (zCb (UInt8.ofNat i.val)):=by decide+kernel
theorem zHK:zFS.size=256:=by
 unfold zFS zOV zLv zKZ zJT zIT zHZ zGo zGD zDX;simp only[zBv,Array.size_replicate]
theorem zTz(b:UInt8):zFS[b.toNat]? =some (zCb b):=by
 have h:=zTQ ⟨b.toNat,b.toNat_lt⟩;rwa[UInt8.ofNat_toNat]at h
def zAw(c:Array Int):Array Value:=c.map (.int .i64)
theorem zSQ(c:Array Int)(i:Nat)(n:Int):(zAw c).setIfInBounds i (.int .i64 n)=zAw (c.setIfInBounds i n):=by
 unfold zAw;apply Array.ext_getElem?;intro j;simp only[Array.getElem?_setIfInBounds,Array.getElem?_map,Array.size_map];split
 ·split<;>simp
 rfl
theorem zEV(c:Array Int):(zAw c).size =c.size:=by simp[zAw]
theorem zSR(c:Array Int)(i:Nat):(zAw c)[i]? =c[i]?.map (.int .i64):=by simp[zAw]
theorem zMi(c:Array Int):(zAw c).all (·.oneCell')=true:=by
 unfold zAw;rw[Array.all_eq_true];intro i hi;simp[Value.oneCell']
def zL(s:ByteArray)(i:Nat):Int:=match s.data.toList[i]? with|none=>0|some b=>zCb b
theorem zD8(h:i<s.size):zL s i=zCb s[i]:=by
 unfold zL;have a:i<s.data.toList.length:=by simpa using h
 rw[List.getElem?_eq_getElem a];simp;rfl
theorem zGS(h:s.size<=i):zL s i=0:=by
 unfold zL;have a:s.data.toList.length<=i:=by simpa using h
 rw[List.getElem?_eq_none a]
def zDg(s:ByteArray)(cls:List Int)(i:Nat):Nat->Nat
 |0=>i
 |n+1=>if i<s.size/\cls.contains (zL s i)=true then zDg s cls (i+1) n else i
def zXO(s:ByteArray)(cls:List Int)(i:Nat):Nat:=zDg s cls i (s.size-i)
theorem zMj{s:ByteArray}{d:List Int}{k:Nat}:∀{n i:Nat},i<=k->k<=i+n->k<=s.size->(∀j,i<=j->j<k->d.contains (zL s j)=true)->(k<s.size->k<i+n->d.contains (zL s k)=false)->zDg s d i n=k
 |0,i,h1,h2,_,_,_=>by unfold zDg;omega
 |n+1,i,h1,h2,h3,h4,h5=>by
  unfold zDg;by_cases e:i=k
  ·subst e;by_cases h:i<s.size
   ·rw[if_neg (by rw[h5 h (by omega)];simp)]
   rw[if_neg (λc=>h c.1)]
  rw[if_pos ⟨by omega,h4 i (Nat.le_refl _) (by omega)⟩,zMj (by omega) (by omega) h3 (λj a b=>h4 j (by omega) b) (λa b=>h5 a (by omega))]
theorem zFs{b:List Int}(c:i<=k)(d:k<=s.size)(e:∀j,i<=j->j<k->b.contains (zL s j)=true)(f:k<s.size->b.contains (zL s k)=false):zXO s b i=k:=
 zMj c (by omega) d e (λa _=>f a)
theorem zJx(s:ByteArray)(c:List Int):∀n i,i<=s.size->i+n=s.size->i<=zDg s c i n/\zDg s c i n<=s.size/\(∀j,i<=j->j<zDg s c i n->c.contains (zL s j)=true)/\(zDg s c i n<s.size->c.contains (zL s (zDg s c i n))=false)
 |0,i,h,he=>by unfold zDg;exact⟨Nat.le_refl _,h,λj a b=>by omega,λd=>by omega⟩
 |n+1,i,h,he=>by
  unfold zDg;by_cases f:i<s.size/\c.contains (zL s i)=true
  ·rw[if_pos f];obtain⟨q,g,k,m⟩:=zJx s c n (i+1) (by omega) (by omega);refine⟨by omega,g,λj a b=> ?_,m⟩;by_cases e:j=i
   ·subst e;exact f.2
   exact k j (by omega) b
  rw[if_neg f];refine⟨Nat.le_refl _,h,λj a b=>by omega,λd=> ?_⟩
  cases o:c.contains (zL s i)with
  |true=>exact absurd ⟨d,o⟩ f
  |false=>rfl
theorem zCL(s:ByteArray)(a:List Int)(h:i<=s.size):i<=zXO s a i/\zXO s a i<=s.size/\(∀j,i<=j->j<zXO s a i->a.contains (zL s j)=true)/\(zXO s a i<s.size->a.contains (zL s (zXO s a i))=false):=
 zJx s a _ i h (by omega)
end Go.Proofs.YtommaegelgilnaaGreatDoor
