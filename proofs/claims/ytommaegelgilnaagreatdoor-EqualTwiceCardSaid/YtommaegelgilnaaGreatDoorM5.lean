/- Lemmas. -/
import Derived.Test.YtommaegelgilnaaGreatDoorM3
import Derived.Deep.MidRow
import Derived.Test.YtommaegelgilnaaGreatDoorM2
set_option linter.all false
namespace Go.Proofs.YtommaegelgilnaaGreatDoor
open Go.RowKit
variable {a b x x0:Value}{cs:Array Value}{g:Nat}{l:List Value}{t:TypeId}
def Blk(w:World)(g:Nat)(t:TypeId)(cs:Array Value):Prop:=w.heap[g]? =some (.cells cs t (0,0))
section
variable {w w':World} {g:Nat} {t:TypeId} {cs:Array Value}
theorem Blk.lt(h:Blk w g t cs):g<w.heap.size:=lt_of_block h
theorem Blk.cell(h:Blk w g t cs)(i:Nat):w.cell? ⟨g,i,none⟩=cs[i]? :=cell_of_row w g i cs t (0,0) h
theorem Blk.at0(h:Blk w g t (x::l).toArray):w.cell? ⟨g,0,none⟩=some x:=h.cell 0
theorem Blk.at1(h:Blk w g t (a::x::l).toArray):w.cell? ⟨g,1,none⟩=some x:=h.cell 1
theorem Blk.at2(h:Blk w g t (a::b::x::l).toArray):w.cell? ⟨g,2,none⟩=some x:=h.cell 2
theorem Blk.at3{a b c x:Value}(h:Blk w g t (a::b::c::x::l).toArray):w.cell? ⟨g,3,none⟩=some x:=h.cell 3
theorem Blk.at4{a b c d x:Value}(h:Blk w g t (a::b::c::d::x::l).toArray):w.cell? ⟨g,4,none⟩=some x:=h.cell 4
theorem Blk.frozen(h:Blk w g t cs)(i:Nat):w.frozen? ⟨g,i,none⟩=false:=by
 unfold Blk at h;simp[World.frozen?,h]
theorem Blk.c1(h:Blk w g t #[x0]):w.cell? ⟨g,0,none⟩=some x0/\w.frozen? ⟨g,0,none⟩=false/\g<w.heap.size:=⟨h.cell 0,h.frozen 0,h.lt⟩
theorem Blk.c2{a b:Value}(h:Blk w g t #[a,b]):w.cell? ⟨g,0,none⟩=some a/\w.frozen? ⟨g,0,none⟩=false/\w.cell? ⟨g,1,none⟩=some b/\w.frozen? ⟨g,1,none⟩=false/\g<w.heap.size:=⟨h.cell 0,h.frozen 0,h.cell 1,h.frozen 1,h.lt⟩
theorem Blk.c5{a b c d e:Value}(h:Blk w g t #[a,b,c,d,e]):w.cell? ⟨g,0,none⟩=some a/\w.frozen? ⟨g,0,none⟩=false/\w.cell? ⟨g,1,none⟩=some b/\w.frozen? ⟨g,1,none⟩=false/\w.cell? ⟨g,2,none⟩=some c/\w.frozen? ⟨g,2,none⟩=false/\w.cell? ⟨g,3,none⟩=some d/\w.frozen? ⟨g,3,none⟩=false/\w.cell? ⟨g,4,none⟩=some e/\w.frozen? ⟨g,4,none⟩=false/\g<w.heap.size:=⟨h.cell 0,h.frozen 0,h.cell 1,h.frozen 1,h.cell 2,h.frozen 2,h.cell 3,h.frozen 3,h.cell 4,h.frozen 4,h.lt⟩
theorem Blk.new(w:World)(t:TypeId)(cs:Array Value):Blk (w.alloc (.cells cs t)) w.heap.size t cs:=heap_alloc_new w _
theorem Blk.of_block(h:Blk w g t cs)(a:w'.heap[g]? =w.heap[g]?):Blk w' g t cs:=a.trans h
theorem Blk.drew(h:Blk w g t cs):Blk w.drew g t cs:=h
theorem Blk.drewN(h:Blk w g t cs)(n:Nat):Blk (w.drewN n) g t cs:=h
theorem Blk.alloc(h:Blk w g t cs)(o:Obj):Blk (w.alloc o) g t cs:=(Below.heap_alloc w o g h.lt).trans h
theorem Blk.set_(h:Blk w g t cs)(i:Nat)(u:Value):Blk (w.setCell ⟨g,i,none⟩ u) g t (cs.setIfInBounds i u):=by
 unfold Blk at h⊢;simp[World.setCell,Array.getElem?_modify,h]
theorem Blk.far(h:Blk w g t cs){p:Addr}(a:g≠p.block)(u:Value):Blk (w.setCell p u) g t cs:=(Below.heap_setCell w p u g a).trans h
theorem Blk.below{B:Nat}(h:Blk w g t cs)(a:Below B w w')(b:g<B):Blk w' g t cs:=(a.block g b).trans h
theorem Blk.keep{Z:zD}(h:Blk w g t cs)(a:zA Z w w')(b:Z g):Blk w' g t cs:=(a.block g h.lt b).trans h
theorem Blk.ne_{d:Nat}{e:TypeId}{b:Array Value}(h:Blk w g t cs)(a:Blk w d e b)(c:t≠e):g≠d:=by
 rintro rfl;unfold Blk at h a;rw[h]at a;injection a with a;injection a with _ ht;exact c ht
theorem Blk.there(h:Blk w g t cs):w.there g 0 cs.size:=λj a=>by
 rw[Nat.zero_add];exact⟨by rw[h.cell];simp[a],h.frozen j⟩
end
theorem zAN(g:Nat):∀(a:List Value)(o:Nat)(w:World)(k:Nat),k≠g->(w.setCells g o a).heap[k]? =w.heap[k]?
 |[],_,_,_,_=>rfl
 |v::r,o,w,k,h=>by
  unfold World.setCells;rw[zAN g r (o+1) _ k h,Below.heap_setCell _ _ _ _ (by simpa using h)]
theorem size_setCells(g:Nat):∀(a:List Value)(o:Nat)(w:World),(w.setCells g o a).heap.size =w.heap.size/\(w.setCells g o a).os =w.os/\(w.setCells g o a).tape =w.tape/\(w.setCells g o a).output =w.output
 |[],_,_=>⟨rfl,rfl,rfl,rfl⟩
 |v::r,o,w=>by
  unfold World.setCells;obtain⟨b,c,d,e⟩:=size_setCells g r (o+1) (w.setCell ⟨g,o,none⟩ v);exact⟨b.trans (by simp[World.setCell]),c,d,e⟩
def zC0(cs:Array Value):List Value->Nat->Array Value
 |[],_=>cs
 |v::r,o=>zC0 (cs.setIfInBounds o v) r (o+1)
theorem Blk.setCells{g:Nat}{t:TypeId}:∀(a:List Value)(o:Nat)(w:World)(cs:Array Value),Blk w g t cs->Blk (w.setCells g o a) g t (zC0 cs a o)
 |[],_,_,_,h=>h
 |v::r,o,w,cs,h=>by
  unfold World.setCells zC0;exact Blk.setCells r (o+1) _ _ (h.set_ o v)
theorem zCJ:∀(a:List Value)(o:Nat)(cs:Array Value),o+a.length<=cs.size->∀j,(zC0 cs a o)[j]? =if o<=j/\j<o+a.length then a[j-o]? else cs[j]?
 |[],o,cs,_,j=>by simp[zC0];omega
 |v::r,o,cs,h,j=>by
  simp only[List.length_cons]at h;unfold zC0;rw[zCJ r (o+1) _ (by simp;omega) j];by_cases b:o+1<=j/\j<o+1+r.length
  ·rw[if_pos b,if_pos (by simp;omega),show j-o=(j-(o+1))+1 from by omega];simp
  ·rw[if_neg b];by_cases c:j=o
   ·subst c;rw[if_pos ⟨Nat.le_refl _,by simp only[List.length_cons];omega⟩,Nat.sub_self,Array.getElem?_setIfInBounds_self_of_lt (by omega)];rfl
   ·rw[if_neg (by simp;omega),Array.getElem?_setIfInBounds_ne (by omega)]
theorem zHX{a:List Value}(h:a.length=cs.size):zC0 cs a 0=a.toArray:=by
 apply Array.ext_getElem?;intro j;rw[zCJ a 0 cs (by omega) j];by_cases b:j<a.length
 ·rw[if_pos (by omega)];simp
 ·rw[if_neg (by omega)];simp[Array.getElem?_eq_none (xs:=cs) (i:=j) (by omega)];omega
section laws
variable {P:Program} {ops:Array Oper} {rest:List Oper} {o:Oper} {a:Act} {w:World} {Q:Exit->Act->World->Prop}
theorem zN(d:o.guard=none)(ty:TypeId)(x y:Operand)(n:o.op= .store ty x y){cs cells:Array Value}(q:a.eval x= .pointer (some ⟨g,0,none⟩))(s:a.eval y= .agg cells)
  (e:Blk w g t cs)(f:cs.size=cells.size)(hi:(P.info? ty).map (·.size)=some cells.size)(j:cells.all (·.oneCell')=true)
  (h:∀c,Blk c g t cells->zA (λb=>b≠g) w c->c.heap.size=w.heap.size->wpList P ops Q rest (a.put o.dst undef) c):wpList P ops Q (o::rest) a w:=by
 refine wpList_store_mid d ty x y n g 0 cells q s (f▸e.there) hi j ?_;obtain⟨i,u,v,z⟩:=size_setCells g cells.toList 0 w;refine h _ ?_ ⟨u,v,z,Nat.le_of_eq i.symm,λk _ m=>zAN g _ 0 w k m⟩ i;have:=Blk.setCells cells.toList 0 w cs e;rwa[zHX (by simpa using f.symm),Array.toArray_toList]at this
theorem zDq(b:o.guard=none)(ty:TypeId)(x:Operand)(f:o.op= .load ty x)(j:a.eval x= .pointer (some ⟨g,0,none⟩))(c:Blk w g t cs)(d:TypeDesc)
  (i:P.underlying ty=some d)(e:(match d with| .struct _ | .array _ _=>true| _=>false)=true)(hi:(P.info? ty).map (·.size)=some cs.size)
  (h:wpList P ops Q rest (a.put o.dst (.agg cs)) w):wpList P ops Q (o::rest) a w:=
 wpList_load_row b ty x f g j t cs (0,0) d c i e hi h
end laws
theorem zCX(w:World)(o p:Obj):Bw w ((w.alloc o).alloc p):=(zG w o).alloc (by simp) p
theorem zIQ{w:World}{base a:Nat}{e:TypeId}{b n:Nat}{v:Value}{xs:List Value}(h:w.ownsRow base e b v n xs)(j:a<=base):w.ownsRow a e b v n xs:=by
 refine⟨h.1,?_⟩;rcases h.2 with k|⟨g,c,d,f,i,r⟩
 ·exact .inl k
 ·exact .inr ⟨g,c,d,f,Nat.le_trans j i,r⟩
section kv
variable {κ:Type} [DecidableEq κ]
def zAA:List (κ × Value)->κ->Option Value
 |[],_=>none
 |p::r,x=>if x=p.1 then some p.2 else zAA r x
def zBu:List (κ × Value)->κ->Nat->Option (Nat × Value)
 |[],_,_=>none
 |p::r,x,i=>if x=p.1 then some (i,p.2)else zBu r x (i+1)
def zAq:List (κ × Value)->κ->Value->List (κ × Value)
 |[],x,v=>[(x,v)]
 |p::r,x,v=>if x=p.1 then(p.1,v)::r else p::zAq r x v
theorem zQr(l:List (κ × Value))(x:κ):∀i,(zBu l x i).map (·.2)=zAA l x:=by
 induction l with
 |nil=>intro i;rfl
 |cons p r ih=>
  intro i;unfold zBu zAA;split
  ·rfl
  ·exact ih (i+1)
theorem zF6(l:List (κ × Value))(x:κ)(v:Value):zAA (zAq l x v) x=some v:=by
 induction l with
 |nil=>simp[zAq,zAA]
 |cons p r ih=>
  unfold zAq;split
  ·rename_i h;simp[zAA,h]
  ·rename_i h;simp[zAA,h,ih]
theorem zDr{x y:κ}(h:y≠x)(l:List (κ × Value))(v:Value):zAA (zAq l x v) y=zAA l y:=by
 induction l with
 |nil=>simp[zAq,zAA,h]
 |cons p r ih=>
  unfold zAq;split
  ·rename_i e;subst e;simp[zAA,h]
  ·simp[zAA,ih]
end kv
structure zFP (P:Program) (k:TypeId) {κ:Type} [DecidableEq κ] (enc:κ->Value):Prop where
 check:∀(w:World)(em:Bool)(x:κ),(Instr.checkKey em 10000 k (enc x)).run P w= .ok () w
 find:∀(w:World)(x:κ)(es:List MapEntry)(kv:List (κ × Value)),es.map (λe=>(e.key,e.val))=kv.map (λp=>(enc p.1,p.2))->
  (Instr.findKey k (enc x) es).run P w= .ok (zBu kv x 0) w
 stays:∀(w:World)(x:κ),(Instr.keyThatStays (enc x) (enc x)).run P w= .ok (enc x) w
def zS{κ:Type}(enc:κ->Value)(w:World)(b:Nat)(kv:List (κ × Value)):Prop:=
 ∃es clock,w.heap[b]? =some (.map es clock)/\es.toList.map (λe=>(e.key,e.val))=kv.map (λp=>(enc p.1,p.2))
section laws
variable {P:Program} {κ:Type} [DecidableEq κ] {enc:κ->Value} {t k e:TypeId} {w:World} {b:Nat} {kv:List (κ × Value)}
omit [DecidableEq κ] in
theorem zS.lt(h:zS enc w b kv):b<w.heap.size:=by
 obtain⟨d,a,c,_⟩:=h;exact(Array.getElem?_eq_some_iff.1 c).1
omit [DecidableEq κ] in
theorem zS.made(w:World)(enc:κ->Value):zS enc (w.alloc (.map #[] 0)) w.heap.size []:=
 ⟨#[],0,heap_alloc_new w _,rfl⟩
omit [DecidableEq κ] in
theorem zS.of_block{w':World}(h:zS enc w b kv)(f:w'.heap[b]? =w.heap[b]?):zS enc w' b kv:=by
 obtain⟨c,a,d,e⟩:=h;exact⟨c,a,f.trans d,e⟩
theorem zS.look(h:zS enc w b kv)(K:zFP P k enc)(i:P.underlying t=some (.map k e)){z:Value}(n:(zeroValue e).run P w= .ok z w)(x:κ)(c:Bool):
  (Instr.lookup t (.map (some b)) (enc x) c).run P w= .ok (if c then .tuple #[(zAA kv x).getD z,.bool (zAA kv x).isSome]else(zAA kv x).getD z) w:=by
 obtain⟨j,d,f,m⟩:=h;have a:=K.find w x j.toList kv m;rw[<-zQr kv x 0]
 cases g:zBu kv x 0 with
 |none=>rw[g]at a;simp[Instr.lookup,run_underlying i,MapKept.run_getObj_map f,K.check w _ x,a,n,Result.andThen]
 |some r=>rw[g]at a;simp[Instr.lookup,run_underlying i,MapKept.run_getObj_map f,K.check w _ x,a,Result.andThen]
theorem zLY(a:List MapEntry)(c:List (κ × Value))(d:a.map (λe=>(e.key,e.val))=c.map (λp=>(enc p.1,p.2)))(x:κ)(v:Value):
  ∀i j(u:Value),zBu c x i=some (j,u)->i<=j/\(a[j-i]?).map (·.key)=some (enc x)/\(a.modify (j-i) λe=>{e with key:=enc x,val:=v}).map (λe=>(e.key,e.val))=(zAq c x v).map (λp=>(enc p.1,p.2)):=by
 induction c generalizing a with
 |nil=>intro i j u h;simp[zBu]at h
 |cons p r ih=>
  intro i j u h
  cases a with
  |nil=>simp at d
  |cons e0 a=>
   simp only[List.map_cons,List.cons.injEq]at d;obtain⟨g,k⟩:=d;unfold zBu at h;unfold zAq;by_cases b:x=p.1
   ·rw[if_pos b]at h⊢;injection h with h;injection h with hj hu;subst hj;(have o:e0.key=enc p.1:=by injection g);refine⟨Nat.le_refl _,?_,?_⟩
    ·simp[o,b]
    ·simp[b,k]
   ·rw[if_neg b]at h⊢;obtain⟨q,m,n⟩:=ih a k (i+1) j u h;(have f:j-i=(j-(i+1))+1:=by omega);refine⟨by omega,?_,?_⟩
    ·rw[f];simpa using m
    ·rw[f,List.modify_succ_cons,List.map_cons,List.map_cons,n,g]
theorem zLZ{x:κ}(v:Value):∀{kv:List (κ × Value)}{i:Nat},zBu kv x i=none->zAq kv x v=kv++[(x,v)]
 |[],_,_=>rfl
 |p::r,i,h=>by
  unfold zBu at h;unfold zAq;split at h
  ·cases h
  ·rename_i hx;rw[if_neg hx,zLZ v h];rfl
theorem zS.store(h:zS enc w b kv)(K:zFP P k enc)(I:P.underlying t=some (.map k e))(x:κ)(v:Value):
  ∃n,(Instr.mapUpdate t (.map (some b)) (enc x) v).run P w= .ok () n/\zS enc n b (zAq kv x v)/\zA (λc=>c≠b) w n/\n.heap.size=w.heap.size/\(∀a,n.cell? a=w.cell? a)/\(∀a,n.frozen? a=w.frozen? a):=by
 obtain⟨o,g,m,F⟩:=h;have s:=K.find w x o.toList kv F;have L:=(Array.getElem?_eq_some_iff.1 m).1
 have q:∀f d,(∀a,(ChangeMaps.setBlock w b (.map f d)).cell? a=w.cell? a)/\(∀a,(ChangeMaps.setBlock w b (.map f d)).frozen? a=w.frozen? a)/\zA (λc=>c≠b) w (ChangeMaps.setBlock w b (.map f d))/\(ChangeMaps.setBlock w b (.map f d)).heap.size =w.heap.size/\(ChangeMaps.setBlock w b (.map f d)).heap[b]? =some (.map f d):=by
  intro f d
  have y:∀c,(ChangeMaps.setBlock w b (.map f d)).heap[c]? =if b=c then some (.map f d)else w.heap[c]? :=by
   intro c;simp only[ChangeMaps.setBlock,Array.getElem?_setIfInBounds];split
   ·rename_i i;subst i;simp
   ·rfl
  refine⟨λa=> ?_,λa=> ?_,⟨rfl,rfl,rfl,by simp[ChangeMaps.setBlock],λc _ i=> ?_⟩,by simp[ChangeMaps.setBlock],?_⟩
  ·unfold World.cell?;rw[y];by_cases i:b=a.block
   ·rw[if_pos i,<-i,m]
   ·rw[if_neg i]
  ·unfold World.frozen?;rw[y];by_cases i:b=a.block
   ·rw[if_pos i,<-i,m]
   ·rw[if_neg i]
  ·rw[y,if_neg (λe=>i e.symm)]
  ·rw[y,if_pos rfl]
 cases z:zBu kv x 0 with
 |none=>
  rw[z]at s;obtain⟨A,B,C,D,E⟩:=q (o.push {key:=enc x,val:=v,born:=g}) (g+1);refine⟨_,by simp[Instr.mapUpdate,run_underlying I,MapKept.run_getObj_map m,K.check w _ x,s,MapKept.run_setObj_map _ m,Result.andThen];rfl,⟨_,_,E,?_⟩,C,D,A,B⟩;rw[zLZ v z];simp[F]
 |some r=>
  obtain⟨j,u⟩:=r;rw[z]at s;obtain⟨_,G,H⟩:=zLY o.toList kv F x v 0 j u z;simp only[Nat.sub_zero]at G H;have J:o[j]?.map (·.key)=some (enc x):=by simpa using G
  obtain⟨A,B,C,D,E⟩:=q (o.modify j λe=>{e with key:=enc x,val:=v}) g;refine⟨_,by simp[Instr.mapUpdate,run_underlying I,MapKept.run_getObj_map m,K.check w _ x,s,J,K.stays,MapKept.run_setObj_map _ m,Result.andThen];rfl,⟨_,_,E,?_⟩,C,D,A,B⟩;simpa using H
theorem zA6{ops:Array Oper}{rest:List Oper}{o:Oper}{a:Act}{Q:Exit->Act->World->Prop}(z:o.guard=none)(m x y:Operand)(i:o.op=Op.mapUpdate t m x y)
  (K:zFP P k enc)(B:P.underlying t=some (.map k e))(A:a.eval m= .map (some b))(h:zS enc w b kv)(key:κ)(C:a.eval x=enc key)
  (v:∀d,zS enc d b (zAq kv key (a.eval y))->zA (λc=>c≠b) w d->d.heap.size=w.heap.size->(∀a,d.cell? a=w.cell? a)->(∀a,d.frozen? a=w.frozen? a)->wpList P ops Q rest (a.put o.dst undef) d):
  wpList P ops Q (o::rest) a w:=by
 refine wpList_plain z λD g=> ?_
 obtain⟨d,f,j,n,q,s,u⟩:=h.store K B key (a.eval y);unfold Oper.wp;simp[execOp,i,A,C,f,Result.andThen];exact g _ _ (v d j n q s u)
end laws
section kinds
variable {P:Program} {k:TypeId}
theorem zOR{κ:Type}[DecidableEq κ]{enc:κ->Value}{d:TypeDesc}(b:∀x y:κ,Instr.sameNow d (enc x) (enc y)=some (decide (x=y)))(x:κ):
  ∀(a:List MapEntry)(kv:List (κ × Value))(i:Nat),a.map (λe=>(e.key,e.val))=kv.map (λp=>(enc p.1,p.2))->Instr.findNow d (enc x) a i=some (zBu kv x i)
 |[],[],_,_=>rfl
 |[],_::_,_,h=>by simp at h
 | _::_,[],_,h=>by simp at h
 |e::a,p::kv,i,h=>by
  simp only[List.map_cons,List.cons.injEq,Prod.mk.injEq]at h;obtain⟨⟨f,g⟩,j⟩:=h;unfold Instr.findNow zBu;rw[f,b];by_cases c:x=p.1
  ·simp[c,g]
  ·simp[c,zOR b x a kv (i+1) j]
theorem zMg{κ:Type}[DecidableEq κ]{enc:κ->Value}{d:TypeDesc}(c:P.underlying k=some d)(e:∀x y:κ,Instr.sameNow d (enc x) (enc y)=some (decide (x=y)))
  (b:∀(w:World)(a:Bool)(x:κ),(Instr.checkKey a 10000 k (enc x)).run P w= .ok () w)(f:∀x:κ,Instr.sameBits 10000 (enc x) (enc x)=true):zFP P k enc where
 check:=b
 find w x es kv h:=by
  simp[Instr.findKey,run_underlying c,zOR e x es kv 0 h]
 stays w x:=by simp[Instr.keyThatStays,f]
def encS(s:ByteArray):Value:= .string s
def encI(n:Int):Value:= .int .i64 n
def zE2(p:Int × Int):Value:= .agg #[.int .i64 p.1,.int .i64 p.2]
theorem zAK(a:P.underlying k=some .string):zFP P k encS:=
 zMg a (λx y=>by
  simp only[encS,Instr.sameNow];congr 1;rw[Bool.eq_iff_iff,MapKept.bytes_beq];simp) (λw b x=>MapKept.run_checkKey a (by simp[encS,MapKept.IsKey]) b 9999) (λx=>by
  simp only[encS,Instr.sameBits];exact(MapKept.bytes_beq x x).2 rfl)
theorem zJR(a:P.underlying k=some (.int .i64)):zFP P k encI:=
 zMg a (λx y=>by simp only[encI,Instr.sameNow];simp;rw[Bool.eq_iff_iff];simp) (λw b x=>MapKept.run_checkKey a (by simp[encI,MapKept.IsKey]) b 9999) (λx=>by simp[encI,Instr.sameBits])
end kinds
end Go.Proofs.YtommaegelgilnaaGreatDoor
