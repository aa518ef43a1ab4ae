/- Lemmas. -/
import Derived.Test.YtommaegelgilnaaGreatDoorM12
import Derived.Test.YtommaegelgilnaaGreatDoorM11
import Derived.Test.YtommaegelgilnaaGreatDoorProg
set_option linter.all false
namespace Go.Proofs.YtommaegelgilnaaGreatDoor
open Go.RowKit
variable {F Z:Nat->Prop}{M g:Nat}{W w w':World}{all:List zB}{cs xs:List Value}{e t:TypeId}{n:zB}{v:Value}
theorem Tryz.eNode:zC2 Tryz.prog 123 4 64:=zDH (z:= .agg #[.bool false,.int .i64 0,.slice none 0 0,.slice none 0 0]) (by kernel_rfl) rfl (by decide)
def NdL(Z:zD)(w:World):List zB->List (List Value)->Prop
 |[],[]=>True
 |f::fs,c::cs=>zAY Z w c f/\NdL Z w fs cs
 | _,_=>False
theorem zAY.size{Z:zD}(h:zAY Z w cs n):cs.length=4:=by
 obtain⟨a,b,rfl,_⟩:=h;rfl
theorem NdL.keep{Z:zD}{w w':World}(b:zA Z w w'):∀{a:List zB}{csl:List (List Value)},NdL Z w a csl->NdL Z w' a csl
 |[],[],_=>trivial
 | _::_,_::_,h=>⟨h.1.keep b,NdL.keep b h.2⟩
 |[],_::_,h=>h.elim
 | _::_,[],h=>h.elim
theorem NdL.mono{Z Z':zD}{w:World}(c:∀b,Z b->Z' b):∀{a:List zB}{csl:List (List Value)},NdL Z w a csl->NdL Z' w a csl
 |[],[],_=>trivial
 | _::_,_::_,h=>⟨h.1.mono c,NdL.mono c h.2⟩
 |[],_::_,h=>h.elim
 | _::_,[],h=>h.elim
theorem NdL.snoc{Z:zD}{w:World}{f:zB}{c:List Value}(b:zAY Z w c f):∀{a:List zB}{csl:List (List Value)},NdL Z w a csl->NdL Z w (a++[f]) (csl++[c])
 |[],[],_=>⟨b,trivial⟩
 | _::_,_::_,h=>⟨h.1,NdL.snoc b h.2⟩
 |[],_::_,h=>h.elim
 | _::_,[],h=>h.elim
theorem NdL.at_{Z:zD}{w:World}:∀{a:List zB}{csl:List (List Value)},NdL Z w a csl->∀i(hi:i<a.length),∃cs,zAY Z w cs a[i]/\∀j u,cs[j]? =some u->csl.flatten[i*4+j]? =some u
 |[],[],_,i,hi=>absurd hi (Nat.not_lt_zero _)
 |f::a,c::cs,h,0,_=>⟨c,h.1,λj u b=>by
   rw[List.flatten_cons,Nat.zero_mul,Nat.zero_add,List.getElem?_append_left (by have:=List.getElem?_eq_some_iff.1 b;exact this.1)];exact b⟩
 |f::a,c::cs,h,i+1,hi=>by
  obtain⟨d,g,e⟩:=NdL.at_ h.2 i (by simpa using hi);have k:c.length=4:=h.1.size;refine⟨d,by simpa using g,λj u b=> ?_⟩;rw[List.flatten_cons,List.getElem?_append_right (by omega)];have:=e j u b;rwa[show(i+1)*4+j-c.length=i*4+j by omega]
 |[],_::_,h,_,_=>h.elim
 | _::_,[],h,_,_=>h.elim
def zDJ(n:zB):ByteArray:=⟨(zDx n).toArray⟩
theorem zME{m n:zB}(h:zDJ m=zDJ n):m=n:=by
 unfold zDJ at h;injection h with h;exact zP8 (by simpa using congrArg Array.toList h)
def zD9:List zB->Nat->List (ByteArray × Value)
 |[],_=>[]
 |n::r,i=>(zDJ n,.int .i64 (i:Nat))::zD9 r (i+1)
theorem zHj:∀(all:List zB)(i:Nat)(n:zB),zAA (zD9 all i) (zDJ n)=if n∈all then some (.int .i64 ((i+all.idxOf n:Nat):Int))else none
 |[],_,_=>by simp[zD9,zAA]
 |m::r,i,n=>by
  unfold zD9 zAA;by_cases h:n=m
  ·subst h;rw[if_pos rfl,if_pos (by simp)];simp
  ·rw[if_neg (λe=>h (zME e)),zHj r (i+1) n];simp only[List.mem_cons,h,false_or];split
   ·rw[List.idxOf_cons];(have:(m==n)=false:=by simp;exact λe=>h e.symm);rw[this];simp;omega
   ·rfl
theorem zKa:∀(all:List zB)(i:Nat)(n:zB),n∉all->zAq (zD9 all i) (zDJ n) (.int .i64 ((i+all.length:Nat):Int))=zD9 (all++[n]) i
 |[],_,_,_=>by simp[zD9,zAq]
 |m::r,i,n,h=>by
  simp only[List.mem_cons,not_or]at h;have ih:=zKa r (i+1) n h.2;simp only[zD9,zAq,List.cons_append,List.length_cons];rw[if_neg (λe=>h.1 (zME e)),<-ih,show i+(r.length+1)=i+1+r.length by omega]
theorem Blk.grown{W b:World}{cs:Array Value}{row:Option Nat}(h:Blk W g t cs)(c:W.grownBy b row)(a:row≠some g):Blk b g t cs:=(c.block g h.lt λe=>a e.symm).trans h
theorem zNR(h:Blk W g t cs.toArray):∀j u,cs[j]? =some u->W.cell? ⟨g,0+j,none⟩=some u:=λj u a=>by
 rw[Nat.zero_add,h.cell];simpa using a
theorem zBc{base n a:Nat}(h:w.ownsRow base e a v (n+1) xs):∃g cap,v= .slice (some ⟨g,0,none⟩) (n+1) cap:=by
 rcases h.2 with⟨_,h⟩|⟨g,cap,cur,rfl,_⟩
 ·omega
 ·exact⟨g,cap,rfl⟩
theorem zXL{Z:zD}{base n a:Nat}(h:w.ownsRow base e a v n xs)(m:zA Z w w')(o:∀k,v.ownBlock=some k->Z k):w'.ownsRow base e a v n xs:=by
 refine⟨h.1,?_⟩;rcases h.2 with h|⟨g,b,c,rfl,j,f,h⟩
 ·exact Or.inl h
 ·have i:g<w.heap.size:=by
   rcases Nat.lt_or_ge g w.heap.size with d|d
   ·exact d
   ·rw[Array.getElem?_eq_none d]at f;cases f
  exact Or.inr ⟨g,b,c,rfl,j,(m.block g i (o g rfl)).trans f,h⟩
theorem zHk{κ:Type}{enc:κ->Value}{b base n a:Nat}{i:List (κ × Value)}(h:w.ownsRow base e a v n xs)(f:zS enc w b i):v.ownBlock≠some b:=by
 obtain⟨j,c,d,_⟩:=f;rcases h.2 with⟨rfl,_⟩|⟨g,cap,cur,rfl,_,hg,_⟩
 ·intro e;cases e
 ·intro e;injection e with e;simp only at e;subst e;rw[d]at hg;injection hg with hg;cases hg
structure MkS (w:World) (M:Nat) (all:List zB) (F Z:Nat->Prop):Prop where
 ex:∃v mp csl,Blk w M 177 #[v,mp]/\w.ownsRow 0 123 4 v all.length csl.flatten/\NdL Z w all csl/\
  (mp= .map none/\all=[]\/∃b,mp= .map (some b)/\zS encS w b (zD9 all 0)/\F b/\b≠M/\all≠[])/\(∀k,v.ownBlock=some k->F k/\k≠M)
 fM:F M
 sep:∀b,Z b->¬F b
 liveF:∀b,F b->b<w.heap.size
 liveZ:∀b,Z b->b<w.heap.size
theorem MkS.keep(h:MkS w M all F Z)(c:zA (λb=>F b\/Z b) w w'):MkS w' M all F Z:=by
 obtain⟨⟨v,A,i,q,m,s,t,n⟩,o,z,hF,u⟩:=h;refine⟨⟨v,A,i,q.keep c (Or.inl o),?_,NdL.keep (c.mono λb _ a=>Or.inr a) s,?_,n⟩,o,z,λb a=>Nat.lt_of_lt_of_le (hF b a) c.size,λb a=>Nat.lt_of_lt_of_le (u b a) c.size⟩
 ·refine⟨m.1,?_⟩;rcases m.2 with h|⟨g,f,j,e,a,x,h⟩
  ·exact Or.inl h
  ·have d:=(n g (by rw[e];rfl)).1;exact Or.inr ⟨g,f,j,e,a,(c.block g (hF g d) (Or.inl d)).trans x,h⟩
 ·rcases t with h|⟨b,e,y,a,k⟩
  ·exact Or.inl h
  ·exact Or.inr ⟨b,e,y.of_block (c.block b (hF b a) (Or.inl a)),a,k⟩
theorem MkS.below(h:MkS w M all F Z)(a:Bw w w'):MkS w' M all F Z:=h.keep (.of_below a)
theorem MkS.new(w:World):MkS (w.alloc (.cells #[.slice none 0 0,.map none] 177)) w.heap.size [] (λb=>b=w.heap.size) (λ_=>False):=
 ⟨⟨.slice none 0 0,.map none,[],Blk.new w _ _,World.ownsRow_nil _ _ _ _,trivial,Or.inl ⟨rfl,rfl⟩,λk c=>by cases c⟩,rfl,λb h=>h.elim,λb a=>by subst a;simp,λb h=>h.elim⟩
theorem zA.wide{Z:zD}(h:zA (λx=>Z x/\x<w.heap.size) w w'):zA Z w w':=h.mono λ_ a b=>⟨b,a⟩
def zC3(w:World)(M:Nat)(F Z:Nat->Prop)(r:Int × List zB)(e:Ending)(w':World):Prop:=
 e= .returned (.int .i64 r.1)/\(∃F',MkS w' M r.2 F' Z/\∀b,F' b->F b\/w.heap.size<=b)/\zA (λb=>¬F b) w w'
theorem zNS{d u t:World}{M b:Nat}{Fa Z Zn:Nat->Prop}{v q:Value}{csl:List (List Value)}{o:Obj}
  (J:Blk d M 177 #[v,.map (some b)])(T:d.ownsRow 0 123 4 v all.length csl.flatten)(U:NdL Z d all csl)(A:∀k,v.ownBlock=some k->Fa k/\k≠M)
  (L:Fa M)(w:Fa b)(y:b≠M)(I:v.ownBlock≠some b)(H:∀x,Z x->¬Fa x)(hF:∀x,Fa x->x<d.heap.size)(O:∀x,Z x->x<d.heap.size)(V:zAY Zn d cs n)(m:∀x,Zn x->¬Fa x/\x<d.heap.size)
  (z:zA (λc=>c≠b) d u)(G:zS encS u b (zD9 (all++[n]) 0))(s:(u.alloc o).drew.grownBy t v.ownBlock)(i:t.ownsRow 0 123 4 q (all.length+1) (csl.flatten++cs))
  (B:q.ownBlock=v.ownBlock\/q.ownBlock=some (u.alloc o).drew.heap.size):
  (∃F',MkS (t.setCell ⟨M,0,none⟩ q) M (all++[n]) F' (λx=>Z x\/Zn x)/\∀x,F' x->Fa x\/d.heap.size<=x)/\zA (λx=>¬Fa x) d (t.setCell ⟨M,0,none⟩ q):=by
 have Q:=z.size;have F:zA (λx=>¬Fa x) d t:=((z.mono λx _ a e=>a (e▸w)).trans (((zA.refl _ _).alloc o).drew)).grown s (λk f _ a=>a (A k f).1);have g:zA (λx=>¬Fa x) d (t.setCell ⟨M,0,none⟩ q):=F.setCell (λ_ a=>a L) _;have N:=J.lt;have P:=hF b w;have R:=s.size;have W:(u.alloc o).drew.heap.size =u.heap.size+1:=by show(u.alloc o).heap.size =_;simp
 have j:∀k,q.ownBlock=some k->(Fa k\/d.heap.size<=k)/\k≠M/\k<t.heap.size/\(k<d.heap.size->Fa k):=λk f=>by
  have C:=(i.lt k f).2;rcases B with e|e
  ·rw[e]at f;exact⟨Or.inl (A k f).1,(A k f).2,C,λ_=>(A k f).1⟩
  ·rw[f]at e;injection e with e;exact⟨Or.inr (by omega),by omega,C,λh=>by omega⟩
 have E:t.heap[b]? =u.heap[b]? :=(s.block b (by omega) (λe=>I e.symm)).trans (Below.heap_alloc _ _ _ (by omega));have D:Blk t M 177 #[v,.map (some b)]:=((((J.keep z y.symm).alloc o).drew).grown s (λe=>(A M e).2 rfl));refine⟨⟨λx=>Fa x\/q.ownBlock=some x,⟨⟨q,.map (some b),csl++[cs],D.set_ 0 q,?_,?_,Or.inr ⟨b,rfl,(G.of_block E).of_block (Below.heap_setCell _ _ _ _ y),Or.inl w,y,by simp⟩,λk f=>⟨Or.inr f,(j k f).2.1⟩⟩,Or.inl L,?_,?_,?_⟩,?_⟩,g⟩
 ·have:=zXL (Z:=λc=>c≠M) i ((zA.refl _ _).setCell (p:=⟨M,0,none⟩) (λ_ h=>h rfl) q) (λk f=>(j k f).2.1);rw[List.length_append,List.length_singleton,List.flatten_append];simpa using this
 ·exact NdL.snoc ((V.keep (g.mono λx _ a=>(m x a).1)).mono λx a=>Or.inr a) (NdL.mono (λx a=>Or.inl a) (NdL.keep (g.mono λx _ a=>H x a) U))
 ·rintro x a (h|h)
  ·rcases a with a|a
   ·exact H x a h
   ·exact(m x a).1 h
  ·have K:=(j x h).2.2.2;rcases a with a|a
   ·exact H x a (K (O x a))
   ·exact(m x a).1 (K (m x a).2)
 ·rintro x (h|h)
  ·have:=hF x h;have:=g.size;omega
  ·have:=(j x h).2.2.1;simpa[World.setCell]using this
 ·rintro x (h|h)
  ·have:=O x h;have:=g.size;omega
  ·have:=(m x h).2;have:=g.size;omega
 ·rintro x (h|h)
  ·exact Or.inl h
  ·exact(j x h).1
end Go.Proofs.YtommaegelgilnaaGreatDoor
