/- Texts MK. -/
import Derived.Test.YtimmfbnjndndlaaGreatDoorM14
import Derived.Test.YtimmfbnjndndlaaGreatDoorM20
import Derived.Test.YtimmfbnjndndlaaGreatDoorProg
set_option linter.all false
namespace Go.Proofs.YtimmfbnjndndlaaGreatDoor
open Go.RowKit
def NdL(Z:Zone)(w:World):List NodeD->List (List Value)->Prop
 |[],[]=>True
 |f::fs,c::cs=>NodeR Z w c f∧NdL Z w fs cs
 | _,_=>False
theorem NodeR.size{Z:Zone}{w:World}{cs:List Value}{n:NodeD}(h:NodeR Z w cs n):cs.length=4:=by
 obtain⟨vc,vk,rfl,_⟩:=h;rfl
theorem NdL.keep{Z:Zone}{w w':World}(hk:Keeps Z w w'):∀{fs:List NodeD}{csl:List (List Value)},NdL Z w fs csl->NdL Z w' fs csl
 |[],[],_=>trivial
 | _::_,_::_,h=>⟨h.1.keep hk,NdL.keep hk h.2⟩
 |[],_::_,h=>h.elim
 | _::_,[],h=>h.elim
theorem NdL.mono{Z Z':Zone}{w:World}(hz:∀b,Z b->Z' b):∀{fs:List NodeD}{csl:List (List Value)},NdL Z w fs csl->NdL Z' w fs csl
 |[],[],_=>trivial
 | _::_,_::_,h=>⟨h.1.mono hz,NdL.mono hz h.2⟩
 |[],_::_,h=>h.elim
 | _::_,[],h=>h.elim
theorem NdL.snoc{Z:Zone}{w:World}{f:NodeD}{c:List Value}(hf:NodeR Z w c f):∀{fs:List NodeD}{csl:List (List Value)},NdL Z w fs csl->NdL Z w (fs++[f]) (csl++[c])
 |[],[],_=>⟨hf,trivial⟩
 | _::_,_::_,h=>⟨h.1,NdL.snoc hf h.2⟩
 |[],_::_,h=>h.elim
 | _::_,[],h=>h.elim
theorem NdL.size{Z:Zone}{w:World}:∀{fs:List NodeD}{csl:List (List Value)},NdL Z w fs csl->csl.flatten.length=fs.length*4
 |[],[],_=>rfl
 |f::fs,c::cs,h=>by
  have hl:c.length=4:=h.1.size;rw[List.flatten_cons,List.length_append,NdL.size h.2,hl,List.length_cons];omega
 |[],_::_,h=>h.elim
 | _::_,[],h=>h.elim
theorem NdL.at_{Z:Zone}{w:World}:∀{fs:List NodeD}{csl:List (List Value)},NdL Z w fs csl->∀i(hi:i<fs.length),∃cs,NodeR Z w cs fs[i]∧∀j u,cs[j]? =some u->csl.flatten[i*4+j]? =some u
 |[],[],_,i,hi=>absurd hi (Nat.not_lt_zero _)
 |f::fs,c::cs,h,0,_=>⟨c,h.1,λj u hu=>by
   rw[List.flatten_cons,Nat.zero_mul,Nat.zero_add,List.getElem?_append_left (by have:=List.getElem?_eq_some_iff.1 hu;exact this.1)];exact hu⟩
 |f::fs,c::cs,h,i+1,hi=>by
  obtain⟨d,hd,hc⟩:=NdL.at_ h.2 i (by simpa using hi);have hl:c.length=4:=h.1.size;refine⟨d,by simpa using hd,λj u hu=> ?_⟩;rw[List.flatten_cons,List.getElem?_append_right (by omega)];have:=hc j u hu;rwa[show(i+1)*4+j-c.length=i*4+j by omega]
 |[],_::_,h,_,_=>h.elim
 | _::_,[],h,_,_=>h.elim
def textB(n:NodeD):ByteArray:=⟨(writeT n).toArray⟩
theorem textB_inj{m n:NodeD}(h:textB m=textB n):m=n:=by
 unfold textB at h;injection h with h;exact writeT_inj (by simpa using congrArg Array.toList h)
def kvFrom:List NodeD->Nat->List (ByteArray × Value)
 |[],_=>[]
 |n::r,i=>(textB n,.int .i64 (i:Nat))::kvFrom r (i+1)
theorem kvFrom_get:∀(all:List NodeD)(i:Nat)(n:NodeD),kvGet (kvFrom all i) (textB n)=if n∈all then some (.int .i64 ((i+all.idxOf n:Nat):Int))else none
 |[],_,_=>by simp[kvFrom,kvGet]
 |m::r,i,n=>by
  unfold kvFrom kvGet;by_cases h:n=m
  ·subst h;rw[if_pos rfl,if_pos (by simp)];simp
  ·rw[if_neg (λe=>h (textB_inj e)),kvFrom_get r (i+1) n];simp only[List.mem_cons,h,false_or];split
   ·rw[List.idxOf_cons];(have:(m==n)=false:=by simp;exact λe=>h e.symm);rw[this];simp;omega
   ·rfl
theorem kvFrom_set:∀(all:List NodeD)(i:Nat)(n:NodeD),n∉all->kvSet (kvFrom all i) (textB n) (.int .i64 ((i+all.length:Nat):Int))=kvFrom (all++[n]) i
 |[],_,_,_=>by simp[kvFrom,kvSet]
 |m::r,i,n,h=>by
  simp only[List.mem_cons,not_or]at h;have ih:=kvFrom_set r (i+1) n h.2;simp only[kvFrom,kvSet,List.cons_append,List.length_cons];rw[if_neg (λe=>h.1 (textB_inj e)),<-ih,show i+(r.length+1)=i+1+r.length by omega]
theorem Blk.grown{W W':World}{g:Nat}{t:TypeId}{cs:Array Value}{row:Option Nat}(h:Blk W g t cs)(hg:W.grownBy W' row)(hne:row≠some g):Blk W' g t cs:=(hg.block g h.lt λe=>hne e.symm).trans h
theorem blkc{W:World}{g:Nat}{t:TypeId}{cs:List Value}(h:Blk W g t cs.toArray):∀j u,cs[j]? =some u->W.cell? ⟨g,0+j,none⟩=some u:=λj u hu=>by
 rw[Nat.zero_add,h.cell];simpa using hu
theorem own_form{w:World}{base n size:Nat}{e:TypeId}{v:Value}{xs:List Value}(h:w.ownsRow base e size v (n+1) xs):∃g cap,v= .slice (some ⟨g,0,none⟩) (n+1) cap:=by
 rcases h.2 with⟨_,h⟩|⟨g,cap,cur,rfl,_⟩
 ·omega
 ·exact⟨g,cap,rfl⟩
theorem own_keep{Z:Zone}{w w':World}{base n size:Nat}{e:TypeId}{v:Value}{xs:List Value}(h:w.ownsRow base e size v n xs)(hk:Keeps Z w w')(hz:∀k,v.ownBlock=some k->Z k):w'.ownsRow base e size v n xs:=by
 refine⟨h.1,?_⟩;rcases h.2 with h|⟨g,cap,cur,rfl,hb,hg,h⟩
 ·exact Or.inl h
 ·have hlt:g<w.heap.size:=by
   rcases Nat.lt_or_ge g w.heap.size with h'|h'
   ·exact h'
   ·rw[Array.getElem?_eq_none h']at hg;cases hg
  exact Or.inr ⟨g,cap,cur,rfl,hb,(hk.block g hlt (hz g rfl)).trans hg,h⟩
theorem own_ne_map{κ:Type}{enc:κ->Value}{w:World}{b base n size:Nat}{e:TypeId}{v:Value}{xs:List Value}{kv:List (κ × Value)}(h:w.ownsRow base e size v n xs)(hm:MapIs enc w b kv):v.ownBlock≠some b:=by
 obtain⟨es,clock,hb,_⟩:=hm;rcases h.2 with⟨rfl,_⟩|⟨g,cap,cur,rfl,_,hg,_⟩
 ·intro e;cases e
 ·intro e;injection e with e;simp only at e;subst e;rw[hb]at hg;injection hg with hg;cases hg
theorem Keeps.wide{Z:Zone}{w w':World}(h:Keeps (λx=>Z x∧x<w.heap.size) w w'):Keeps Z w w':=h.mono λ_ hb hz=>⟨hz,hb⟩
end Go.Proofs.YtimmfbnjndndlaaGreatDoor
