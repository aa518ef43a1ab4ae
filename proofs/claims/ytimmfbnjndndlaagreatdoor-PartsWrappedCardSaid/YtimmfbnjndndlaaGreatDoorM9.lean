/- Texts M. -/
import Derived.Test.YtimmfbnjndndlaaGreatDoorM5
import Derived.ChangeMaps4
set_option linter.all false
namespace Go.Proofs.YtimmfbnjndndlaaGreatDoor
open Go.RowKit
section kv
variable {κ:Type} [DecidableEq κ]
def kvGet:List (κ × Value)->κ->Option Value
 |[],_=>none
 |p::r,x=>if x=p.1 then some p.2 else kvGet r x
def kvFind:List (κ × Value)->κ->Nat->Option (Nat × Value)
 |[],_,_=>none
 |p::r,x,i=>if x=p.1 then some (i,p.2)else kvFind r x (i+1)
def kvSet:List (κ × Value)->κ->Value->List (κ × Value)
 |[],x,v=>[(x,v)]
 |p::r,x,v=>if x=p.1 then(p.1,v)::r else p::kvSet r x v
theorem kvFind_get(l:List (κ × Value))(x:κ):∀i,(kvFind l x i).map (·.2)=kvGet l x:=by
 induction l with
 |nil=>intro i;rfl
 |cons p r ih=>
  intro i;unfold kvFind kvGet;split
  ·rfl
  ·exact ih (i+1)
theorem kvGet_set_same(l:List (κ × Value))(x:κ)(v:Value):kvGet (kvSet l x v) x=some v:=by
 induction l with
 |nil=>simp[kvSet,kvGet]
 |cons p r ih=>
  unfold kvSet;split
  ·rename_i h;simp[kvGet,h]
  ·rename_i h;simp[kvGet,h,ih]
theorem kvGet_set_other{x y:κ}(h:y≠x)(l:List (κ × Value))(v:Value):kvGet (kvSet l x v) y=kvGet l y:=by
 induction l with
 |nil=>simp[kvSet,kvGet,h]
 |cons p r ih=>
  unfold kvSet;split
  ·rename_i e;subst e;simp[kvGet,h]
  ·simp[kvGet,ih]
theorem kvSet_length_le(l:List (κ × Value))(x:κ)(v:Value):(kvSet l x v).length ≤l.length+1:=by
 induction l with
 |nil=>simp[kvSet]
 |cons p r ih=>
  unfold kvSet;split<;>simp;exact ih
theorem kvSet_length(l:List (κ × Value))(x:κ)(v:Value):(kvSet l x v).length =if kvGet l x=none then l.length+1 else l.length:=by
 induction l with
 |nil=>simp[kvSet,kvGet]
 |cons p r ih=>
  unfold kvSet kvGet;split
  ·simp
  ·simp only[List.length_cons,ih];split<;>rfl
end kv
structure KeyOk (P:Program) (k:TypeId) {κ:Type} [DecidableEq κ] (enc:κ->Value):Prop where
 check:∀(w:World)(em:Bool)(x:κ),(Instr.checkKey em 10000 k (enc x)).run P w= .ok () w
 find:∀(w:World)(x:κ)(es:List MapEntry)(kv:List (κ × Value)),es.map (λe=>(e.key,e.val))=kv.map (λp=>(enc p.1,p.2))->
  (Instr.findKey k (enc x) es).run P w= .ok (kvFind kv x 0) w
 stays:∀(w:World)(x:κ),(Instr.keyThatStays (enc x) (enc x)).run P w= .ok (enc x) w
def MapIs{κ:Type}(enc:κ->Value)(w:World)(b:Nat)(kv:List (κ × Value)):Prop:=
 ∃es clock,w.heap[b]? =some (.map es clock)∧es.toList.map (λe=>(e.key,e.val))=kv.map (λp=>(enc p.1,p.2))
section laws
variable {P:Program} {κ:Type} [DecidableEq κ] {enc:κ->Value} {t k e:TypeId} {w:World} {b:Nat} {kv:List (κ × Value)}
omit [DecidableEq κ] in
theorem MapIs.lt(h:MapIs enc w b kv):b<w.heap.size:=by
 obtain⟨es,clock,hb,_⟩:=h;exact(Array.getElem?_eq_some_iff.1 hb).1
omit [DecidableEq κ] in
theorem MapIs.made(w:World)(enc:κ->Value):MapIs enc (w.alloc (.map #[] 0)) w.heap.size []:=
 ⟨#[],0,heap_alloc_new w _,rfl⟩
omit [DecidableEq κ] in
theorem MapIs.of_block{w':World}(h:MapIs enc w b kv)(hb:w'.heap[b]? =w.heap[b]?):MapIs enc w' b kv:=by
 obtain⟨es,clock,h1,h2⟩:=h;exact⟨es,clock,hb.trans h1,h2⟩
theorem MapIs.look(h:MapIs enc w b kv)(K:KeyOk P k enc)(ht:P.underlying t=some (.map k e)){z:Value}(hz:(zeroValue e).run P w= .ok z w)(x:κ)(c:Bool):
  (Instr.lookup t (.map (some b)) (enc x) c).run P w= .ok (if c then .tuple #[(kvGet kv x).getD z,.bool (kvGet kv x).isSome]else(kvGet kv x).getD z) w:=by
 obtain⟨es,clock,hb,hm⟩:=h;have hf:=K.find w x es.toList kv hm;rw[<-kvFind_get kv x 0]
 cases hk:kvFind kv x 0 with
 |none=>rw[hk]at hf;simp[Instr.lookup,run_underlying ht,MapKept.run_getObj_map hb,K.check w _ x,hf,hz,Result.andThen]
 |some r=>rw[hk]at hf;simp[Instr.lookup,run_underlying ht,MapKept.run_getObj_map hb,K.check w _ x,hf,Result.andThen]
theorem list_modify_map(es:List MapEntry)(kv:List (κ × Value))(hm:es.map (λe=>(e.key,e.val))=kv.map (λp=>(enc p.1,p.2)))(x:κ)(v:Value):
  ∀i j(u:Value),kvFind kv x i=some (j,u)->i≤j∧(es[j-i]?).map (·.key)=some (enc x)∧(es.modify (j-i) λe=>{e with key:=enc x,val:=v}).map (λe=>(e.key,e.val))=(kvSet kv x v).map (λp=>(enc p.1,p.2)):=by
 induction kv generalizing es with
 |nil=>intro i j u h;simp[kvFind]at h
 |cons p r ih=>
  intro i j u h
  cases es with
  |nil=>simp at hm
  |cons e0 es=>
   simp only[List.map_cons,List.cons.injEq]at hm;obtain⟨h0,hr⟩:=hm;unfold kvFind at h;unfold kvSet;by_cases hx:x=p.1
   ·rw[if_pos hx]at h⊢;injection h with h;injection h with hj hu;subst hj;(have hk:e0.key=enc p.1:=by injection h0);refine⟨Nat.le_refl _,?_,?_⟩
    ·simp[hk,hx]
    ·simp[hx,hr]
   ·rw[if_neg hx]at h⊢;obtain⟨h1,h2,h3⟩:=ih es hr (i+1) j u h;(have e1:j-i=(j-(i+1))+1:=by omega);refine⟨by omega,?_,?_⟩
    ·rw[e1];simpa using h2
    ·rw[e1,List.modify_succ_cons,List.map_cons,List.map_cons,h3,h0]
theorem kvSet_none{x:κ}(v:Value):∀{kv:List (κ × Value)}{i:Nat},kvFind kv x i=none->kvSet kv x v=kv++[(x,v)]
 |[],_,_=>rfl
 |p::r,i,h=>by
  unfold kvFind at h;unfold kvSet;split at h
  ·cases h
  ·rename_i hx;rw[if_neg hx,kvSet_none v h];rfl
theorem MapIs.store(h:MapIs enc w b kv)(K:KeyOk P k enc)(ht:P.underlying t=some (.map k e))(x:κ)(v:Value):
  ∃w1,(Instr.mapUpdate t (.map (some b)) (enc x) v).run P w= .ok () w1∧MapIs enc w1 b (kvSet kv x v)∧Keeps (λc=>c≠b) w w1∧w1.heap.size=w.heap.size∧(∀a,w1.cell? a=w.cell? a)∧(∀a,w1.frozen? a=w.frozen? a):=by
 obtain⟨es,clock,hb,hm⟩:=h;have hf:=K.find w x es.toList kv hm;have hlt:=(Array.getElem?_eq_some_iff.1 hb).1
 have fin:∀es' clock',(∀a,(ChangeMaps.setBlock w b (.map es' clock')).cell? a=w.cell? a)∧(∀a,(ChangeMaps.setBlock w b (.map es' clock')).frozen? a=w.frozen? a)∧Keeps (λc=>c≠b) w (ChangeMaps.setBlock w b (.map es' clock'))∧(ChangeMaps.setBlock w b (.map es' clock')).heap.size =w.heap.size∧(ChangeMaps.setBlock w b (.map es' clock')).heap[b]? =some (.map es' clock'):=by
  intro es' clock'
  have hh:∀c,(ChangeMaps.setBlock w b (.map es' clock')).heap[c]? =if b=c then some (.map es' clock')else w.heap[c]? :=by
   intro c;simp only[ChangeMaps.setBlock,Array.getElem?_setIfInBounds];split
   ·rename_i hc;subst hc;simp
   ·rfl
  refine⟨λa=> ?_,λa=> ?_,⟨rfl,rfl,rfl,by simp[ChangeMaps.setBlock],λc _ hc=> ?_⟩,by simp[ChangeMaps.setBlock],?_⟩
  ·unfold World.cell?;rw[hh];by_cases hc:b=a.block
   ·rw[if_pos hc,<-hc,hb]
   ·rw[if_neg hc]
  ·unfold World.frozen?;rw[hh];by_cases hc:b=a.block
   ·rw[if_pos hc,<-hc,hb]
   ·rw[if_neg hc]
  ·rw[hh,if_neg (λe=>hc e.symm)]
  ·rw[hh,if_pos rfl]
 cases hk:kvFind kv x 0 with
 |none=>
  rw[hk]at hf;obtain⟨f1,f2,f3,f4,f5⟩:=fin (es.push {key:=enc x,val:=v,born:=clock}) (clock+1);refine⟨_,by simp[Instr.mapUpdate,run_underlying ht,MapKept.run_getObj_map hb,K.check w _ x,hf,MapKept.run_setObj_map _ hb,Result.andThen];rfl,⟨_,_,f5,?_⟩,f3,f4,f1,f2⟩;rw[kvSet_none v hk];simp[hm]
 |some r=>
  obtain⟨j,u⟩:=r;rw[hk]at hf;obtain⟨_,h2,h3⟩:=list_modify_map es.toList kv hm x v 0 j u hk;simp only[Nat.sub_zero]at h2 h3;have hj:es[j]?.map (·.key)=some (enc x):=by simpa using h2
  obtain⟨f1,f2,f3,f4,f5⟩:=fin (es.modify j λe=>{e with key:=enc x,val:=v}) clock;refine⟨_,by simp[Instr.mapUpdate,run_underlying ht,MapKept.run_getObj_map hb,K.check w _ x,hf,hj,K.stays,MapKept.run_setObj_map _ hb,Result.andThen];rfl,⟨_,_,f5,?_⟩,f3,f4,f1,f2⟩;simpa using h3
theorem wpList_mapStore{ops:Array Oper}{rest:List Oper}{o:Oper}{a:Act}{Q:Exit->Act->World->Prop}(hg:o.guard=none)(m x y:Operand)(hop:o.op=Op.mapUpdate t m x y)
  (K:KeyOk P k enc)(ht:P.underlying t=some (.map k e))(hm:a.eval m= .map (some b))(h:MapIs enc w b kv)(key:κ)(hx:a.eval x=enc key)
  (hK:∀w1,MapIs enc w1 b (kvSet kv key (a.eval y))->Keeps (λc=>c≠b) w w1->w1.heap.size=w.heap.size->(∀a,w1.cell? a=w.cell? a)->(∀a,w1.frozen? a=w.frozen? a)->wpList P ops Q rest (a.put o.dst undef) w1):
  wpList P ops Q (o::rest) a w:=by
 refine wpList_plain hg λK' hK'=> ?_
 obtain⟨w1,hrun,h1,h2,h3,h4,h5⟩:=h.store K ht key (a.eval y);unfold Oper.wp;simp[execOp,hop,hm,hx,hrun,Result.andThen];exact hK' _ _ (hK w1 h1 h2 h3 h4 h5)
theorem wpList_mapLook{ops:Array Oper}{rest:List Oper}{o:Oper}{a:Act}{Q:Exit->Act->World->Prop}(hg:o.guard=none)(m x:Operand)(c:Bool)(hop:o.op=Op.lookup t m x c)
  (K:KeyOk P k enc)(ht:P.underlying t=some (.map k e)){z:Value}(hz:(zeroValue e).run P w= .ok z w)(hm:a.eval m= .map (some b))(h:MapIs enc w b kv)(key:κ)(hx:a.eval x=enc key){v:Value}
  (hv:(if c then .tuple #[(kvGet kv key).getD z,.bool (kvGet kv key).isSome]else(kvGet kv key).getD z)=v)(hK:wpList P ops Q rest (a.put o.dst v) w):
  wpList P ops Q (o::rest) a w:=by
 refine wpList_plain hg λK' hK'=> ?_
 have hrun:=h.look K ht hz key c;rw[hv]at hrun;unfold Oper.wp;simp[execOp,hop,hm,hx,hrun,Result.andThen];exact hK' _ _ hK
end laws
section kinds
variable {P:Program} {k:TypeId}
theorem find_now{κ:Type}[DecidableEq κ]{enc:κ->Value}{d:TypeDesc}(hn:∀x y:κ,Instr.sameNow d (enc x) (enc y)=some (decide (x=y)))(x:κ):
  ∀(es:List MapEntry)(kv:List (κ × Value))(i:Nat),es.map (λe=>(e.key,e.val))=kv.map (λp=>(enc p.1,p.2))->Instr.findNow d (enc x) es i=some (kvFind kv x i)
 |[],[],_,_=>rfl
 |[],_::_,_,h=>by simp at h
 | _::_,[],_,h=>by simp at h
 |e::es,p::kv,i,h=>by
  simp only[List.map_cons,List.cons.injEq,Prod.mk.injEq]at h;obtain⟨⟨h1,h2⟩,h3⟩:=h;unfold Instr.findNow kvFind;rw[h1,hn];by_cases hx:x=p.1
  ·simp[hx,h2]
  ·simp[hx,find_now hn x es kv (i+1) h3]
theorem keyOk_now{κ:Type}[DecidableEq κ]{enc:κ->Value}{d:TypeDesc}(hk:P.underlying k=some d)(hn:∀x y:κ,Instr.sameNow d (enc x) (enc y)=some (decide (x=y)))
  (hc:∀(w:World)(em:Bool)(x:κ),(Instr.checkKey em 10000 k (enc x)).run P w= .ok () w)(hs:∀x:κ,Instr.sameBits 10000 (enc x) (enc x)=true):KeyOk P k enc where
 check:=hc
 find w x es kv h:=by
  simp[Instr.findKey,run_underlying hk,find_now hn x es kv 0 h]
 stays w x:=by simp[Instr.keyThatStays,hs]
def encS(s:ByteArray):Value:= .string s
def encI(n:Int):Value:= .int .i64 n
def encP(p:Int × Int):Value:= .agg #[.int .i64 p.1,.int .i64 p.2]
theorem keyOk_string(hk:P.underlying k=some .string):KeyOk P k encS:=
 keyOk_now hk (λx y=>by
  simp only[encS,Instr.sameNow];congr 1;rw[Bool.eq_iff_iff,MapKept.bytes_beq];simp) (λw em x=>MapKept.run_checkKey hk (by simp[encS,MapKept.IsKey]) em 9999) (λx=>by
  simp only[encS,Instr.sameBits];exact(MapKept.bytes_beq x x).2 rfl)
theorem keyOk_int(hk:P.underlying k=some (.int .i64)):KeyOk P k encI:=
 keyOk_now hk (λx y=>by simp only[encI,Instr.sameNow];simp;rw[Bool.eq_iff_iff];simp) (λw em x=>MapKept.run_checkKey hk (by simp[encI,MapKept.IsKey]) em 9999) (λx=>by simp[encI,Instr.sameBits])
end kinds
end Go.Proofs.YtimmfbnjndndlaaGreatDoor
