/- Texts B N4. -/
import Derived.Test.YtimmfbnjndndlaaGreatDoorM3
import Derived.Deep.MidRow
import Derived.Test.YtimmfbnjndndlaaGreatDoorM2
set_option linter.all false
namespace Go.Proofs.YtimmfbnjndndlaaGreatDoor
open Go.RowKit
def Blk(w:World)(g:Nat)(t:TypeId)(cs:Array Value):Prop:=w.heap[g]? =some (.cells cs t (0,0))
section
variable {w w':World} {g:Nat} {t:TypeId} {cs:Array Value}
theorem Blk.lt(h:Blk w g t cs):g<w.heap.size:=lt_of_block h
theorem Blk.cell(h:Blk w g t cs)(i:Nat):w.cell? ⟨g,i,none⟩=cs[i]? :=cell_of_row w g i cs t (0,0) h
theorem Blk.at0{x:Value}{l:List Value}(h:Blk w g t (x::l).toArray):w.cell? ⟨g,0,none⟩=some x:=h.cell 0
theorem Blk.at1{a x:Value}{l:List Value}(h:Blk w g t (a::x::l).toArray):w.cell? ⟨g,1,none⟩=some x:=h.cell 1
theorem Blk.at2{a b x:Value}{l:List Value}(h:Blk w g t (a::b::x::l).toArray):w.cell? ⟨g,2,none⟩=some x:=h.cell 2
theorem Blk.at3{a b c x:Value}{l:List Value}(h:Blk w g t (a::b::c::x::l).toArray):w.cell? ⟨g,3,none⟩=some x:=h.cell 3
theorem Blk.at4{a b c d x:Value}{l:List Value}(h:Blk w g t (a::b::c::d::x::l).toArray):w.cell? ⟨g,4,none⟩=some x:=h.cell 4
theorem Blk.frozen(h:Blk w g t cs)(i:Nat):w.frozen? ⟨g,i,none⟩=false:=by
 unfold Blk at h;simp[World.frozen?,h]
theorem Blk.new(w:World)(t:TypeId)(cs:Array Value):Blk (w.alloc (.cells cs t)) w.heap.size t cs:=heap_alloc_new w _
theorem Blk.of_block(h:Blk w g t cs)(hb:w'.heap[g]? =w.heap[g]?):Blk w' g t cs:=hb.trans h
theorem Blk.drew(h:Blk w g t cs):Blk w.drew g t cs:=h
theorem Blk.drewN(h:Blk w g t cs)(n:Nat):Blk (w.drewN n) g t cs:=h
theorem Blk.alloc(h:Blk w g t cs)(o:Obj):Blk (w.alloc o) g t cs:=(Below.heap_alloc w o g h.lt).trans h
theorem Blk.set_(h:Blk w g t cs)(i:Nat)(u:Value):Blk (w.setCell ⟨g,i,none⟩ u) g t (cs.setIfInBounds i u):=by
 unfold Blk at h⊢;simp[World.setCell,Array.getElem?_modify,h]
theorem Blk.far(h:Blk w g t cs){p:Addr}(hp:g≠p.block)(u:Value):Blk (w.setCell p u) g t cs:=(Below.heap_setCell w p u g hp).trans h
theorem Blk.below{B:Nat}(h:Blk w g t cs)(hb:Below B w w')(hg:g<B):Blk w' g t cs:=(hb.block g hg).trans h
theorem Blk.keep{Z:Zone}(h:Blk w g t cs)(hk:Keeps Z w w')(hz:Z g):Blk w' g t cs:=(hk.block g h.lt hz).trans h
theorem Blk.ne_{g':Nat}{t':TypeId}{cs':Array Value}(h:Blk w g t cs)(h':Blk w g' t' cs')(hne:t≠t'):g≠g':=by
 rintro rfl;unfold Blk at h h';rw[h]at h';injection h' with h';injection h' with _ ht;exact hne ht
theorem Blk.there(h:Blk w g t cs):w.there g 0 cs.size:=λj hj=>by
 rw[Nat.zero_add];exact⟨by rw[h.cell];simp[hj],h.frozen j⟩
theorem Blk.rangeAt(h:Blk w g t cs):w.rangeAt g 0 cs.toList:=λj v hv=>by
 rw[Nat.zero_add,h.cell];simpa using hv
end
theorem heap_setCells_other(g:Nat):∀(vs:List Value)(o:Nat)(w:World)(k:Nat),k≠g->(w.setCells g o vs).heap[k]? =w.heap[k]?
 |[],_,_,_,_=>rfl
 |v::r,o,w,k,h=>by
  unfold World.setCells;rw[heap_setCells_other g r (o+1) _ k h,Below.heap_setCell _ _ _ _ (by simpa using h)]
theorem size_setCells(g:Nat):∀(vs:List Value)(o:Nat)(w:World),(w.setCells g o vs).heap.size =w.heap.size∧(w.setCells g o vs).os =w.os∧(w.setCells g o vs).tape =w.tape∧(w.setCells g o vs).output =w.output
 |[],_,_=>⟨rfl,rfl,rfl,rfl⟩
 |v::r,o,w=>by
  unfold World.setCells;obtain⟨h1,h2,h3,h4⟩:=size_setCells g r (o+1) (w.setCell ⟨g,o,none⟩ v);exact⟨h1.trans (by simp[World.setCell]),h2,h3,h4⟩
def setFrom(cs:Array Value):List Value->Nat->Array Value
 |[],_=>cs
 |v::r,o=>setFrom (cs.setIfInBounds o v) r (o+1)
theorem Blk.setCells{g:Nat}{t:TypeId}:∀(vs:List Value)(o:Nat)(w:World)(cs:Array Value),Blk w g t cs->Blk (w.setCells g o vs) g t (setFrom cs vs o)
 |[],_,_,_,h=>h
 |v::r,o,w,cs,h=>by
  unfold World.setCells setFrom;exact Blk.setCells r (o+1) _ _ (h.set_ o v)
theorem setFrom_get:∀(vs:List Value)(o:Nat)(cs:Array Value),o+vs.length≤cs.size->∀j,(setFrom cs vs o)[j]? =if o≤j∧j<o+vs.length then vs[j-o]? else cs[j]?
 |[],o,cs,_,j=>by simp[setFrom];omega
 |v::r,o,cs,h,j=>by
  simp only[List.length_cons]at h;unfold setFrom;rw[setFrom_get r (o+1) _ (by simp;omega) j];by_cases h1:o+1≤j∧j<o+1+r.length
  ·rw[if_pos h1,if_pos (by simp;omega),show j-o=(j-(o+1))+1 from by omega];simp
  ·rw[if_neg h1];by_cases h2:j=o
   ·subst h2;rw[if_pos ⟨Nat.le_refl _,by simp only[List.length_cons];omega⟩,Nat.sub_self,Array.getElem?_setIfInBounds_self_of_lt (by omega)];rfl
   ·rw[if_neg (by simp;omega),Array.getElem?_setIfInBounds_ne (by omega)]
theorem setFrom_all{vs:List Value}{cs:Array Value}(h:vs.length=cs.size):setFrom cs vs 0=vs.toArray:=by
 apply Array.ext_getElem?;intro j;rw[setFrom_get vs 0 cs (by omega) j];by_cases hj:j<vs.length
 ·rw[if_pos (by omega)];simp
 ·rw[if_neg (by omega)];simp[Array.getElem?_eq_none (xs:=cs) (i:=j) (by omega)];omega
section laws
variable {P:Program} {ops:Array Oper} {rest:List Oper} {o:Oper} {a:Act} {w:World} {Q:Exit->Act->World->Prop}
theorem wpList_store_blk(hgd:o.guard=none)(ty:TypeId)(x y:Operand)(ho:o.op= .store ty x y){g:Nat}{t:TypeId}{cs cells:Array Value}(hx:a.eval x= .pointer (some ⟨g,0,none⟩))(hy:a.eval y= .agg cells)
  (hb:Blk w g t cs)(hs:cs.size=cells.size)(hi:(P.info? ty).map (·.size)=some cells.size)(h1:cells.all (·.oneCell')=true)
  (h:∀w1,Blk w1 g t cells->Keeps (λb=>b≠g) w w1->w1.heap.size=w.heap.size->wpList P ops Q rest (a.put o.dst undef) w1):wpList P ops Q (o::rest) a w:=by
 refine wpList_store_mid hgd ty x y ho g 0 cells hx hy (hs▸hb.there) hi h1 ?_;obtain⟨s1,s2,s3,s4⟩:=size_setCells g cells.toList 0 w;refine h _ ?_ ⟨s2,s3,s4,Nat.le_of_eq s1.symm,λk _ hk=>heap_setCells_other g _ 0 w k hk⟩ s1;have:=Blk.setCells cells.toList 0 w cs hb;rwa[setFrom_all (by simpa using hs.symm),Array.toArray_toList]at this
theorem wpList_load_blk(hgd:o.guard=none)(ty:TypeId)(x:Operand)(ho:o.op= .load ty x){g:Nat}{t:TypeId}{cs:Array Value}(hx:a.eval x= .pointer (some ⟨g,0,none⟩))(hb:Blk w g t cs)(d:TypeDesc)
  (hu:P.underlying ty=some d)(hd:(match d with| .struct _ | .array _ _=>true| _=>false)=true)(hi:(P.info? ty).map (·.size)=some cs.size)
  (h:wpList P ops Q rest (a.put o.dst (.agg cs)) w):wpList P ops Q (o::rest) a w:=
 wpList_load_row hgd ty x ho g hx t cs (0,0) d hb hu hd hi h
end laws
theorem below2(w:World)(o p:Obj):Below w.heap.size w ((w.alloc o).alloc p):=(below1 w o).alloc (by simp) p
theorem own_mono{w:World}{base base':Nat}{e:TypeId}{size n:Nat}{v:Value}{xs:List Value}(h:w.ownsRow base e size v n xs)(hb:base'≤base):w.ownsRow base' e size v n xs:=by
 refine⟨h.1,?_⟩;rcases h.2 with hn|⟨g,cap,cur,e1,e2,r⟩
 ·exact .inl hn
 ·exact .inr ⟨g,cap,cur,e1,Nat.le_trans hb e2,r⟩
def lim(x:Nat):Value:= .int .u64 (x:Int)
structure Lims (Z:Zone) (w:World) (v:Value) (l:List Nat):Prop where
 is:∃A cap,v= .slice A l.length cap∧l.length≤cap∧cap≤9223372036854775807∧l.length*8≤140737488355328∧Row Z w A (l.map lim)
 limbs:Limbs l
section lims
variable {Z Z':Zone} {w w':World} {v:Value} {l:List Nat}
theorem Lims.keep(h:Lims Z w v l)(hk:Keeps Z w w'):Lims Z w' v l:=by
 obtain⟨⟨A,cap,e,h1,h2,h2b,hr⟩,hf⟩:=h;exact⟨⟨A,cap,e,h1,h2,h2b,hr.keep hk⟩,hf⟩
theorem Lims.mono(h:Lims Z w v l)(hz:∀b,Z b->Z' b):Lims Z' w v l:=by
 obtain⟨⟨A,cap,e,h1,h2,h2b,hr⟩,hf⟩:=h;exact⟨⟨A,cap,e,h1,h2,h2b,hr.mono hz⟩,hf⟩
theorem Lims.nil(Z:Zone)(w:World):Lims Z w (.slice none 0 0) []:=⟨⟨none,0,rfl,Nat.le_refl _,by omega,by simp,Row.nil⟩,Limbs.nil⟩
theorem Lims.of_own{base:Nat}{e:TypeId}{n:Nat}(h:w.ownsRow base e 1 v n (l.map lim))(hf:Limbs l)(hl:l.length*8≤140737488355328):Lims (λb=>base≤b) w v l:=by
 have hn:l.length=n:=by have:=h.1;simpa using this
 subst hn;obtain⟨A,cap,e,h1,h2,h3⟩:=Row.of_own h (by omega);exact⟨⟨A,cap,e,h1,by simpa[maxLen]using h2,hl,h3⟩,hf⟩
theorem Lims.form(h:Lims Z w v l):∃A cap,v= .slice A l.length cap∧l.length≤17592186044416∧l.length≤cap∧cap≤9223372036854775807:=by
 obtain⟨⟨A,cap,rfl,h1,h2,h3,_⟩,_⟩:=h;exact⟨A,cap,rfl,by omega,h1,h2⟩
theorem Lims.at_{A:Option Addr}{cap n:Nat}(h:Lims Z w (.slice A n cap) l){i:Nat}(hi:i<l.length):
  ∃b off,A=some ⟨b,off,none⟩∧Z b∧b<w.heap.size∧w.cell? ⟨b,off+i,none⟩=some (.int .u64 (l[i]:Int)):=by
 obtain⟨⟨A',cap',e,_,_,_,hr⟩,_⟩:=h;injection e with e1 e2 e3;subst e1;obtain⟨b,off,rfl,hz,hc⟩:=hr (by intro he;rw[List.map_eq_nil_iff]at he;subst he;simp at hi);have:=hc i (lim l[i]) (by simp[hi]);exact⟨b,off,rfl,hz,lt_of_cell this,this⟩
theorem Lims.take{A:Option Addr}{cap n:Nat}(h:Lims Z w (.slice A n cap) l){k:Nat}(hk:k≤l.length):Lims Z w (.slice A k cap) (l.take k):=by
 obtain⟨⟨A',cap',e,h1,h2,h3,hr⟩,hf⟩:=h;injection e with e1 e2 e3;subst e1 e3;have hl:(l.take k).length =k:=by rw[List.length_take];omega
 refine⟨⟨A,cap,by rw[hl],by omega,h2,by omega,λhne=> ?_⟩,hf.take k⟩;obtain⟨b,off,e,hz,hc⟩:=hr (by intro he;rw[List.map_eq_nil_iff]at he;subst he;simp at hne);refine⟨b,off,e,hz,λj u hu=>hc j u ?_⟩;rw[List.map_take,List.getElem?_take]at hu;split at hu
 ·exact hu
 ·cases hu
theorem Lims.len{A:Option Addr}{n cap:Nat}(h:Lims Z w (.slice A n cap) l):n=l.length:=by
 obtain⟨⟨A',cap',e,_⟩,_⟩:=h;injection e
end lims
def NumS(Z:Zone)(w:World)(v:Value)(n:Nat):Prop:=Lims Z w v (digs n)
theorem NumS.of{Z:Zone}{w:World}{v:Value}{l:List Nat}{n:Nat}(h:Lims Z w v l)(e:l=digs n):NumS Z w v n:=by subst e;exact h
end Go.Proofs.YtimmfbnjndndlaaGreatDoor
