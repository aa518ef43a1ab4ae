/- Texts MK. -/
import Derived.Test.YtonmdbdopchkaaaGreatDoorM8
import Derived.Test.YtonmdbdopchkaaaGreatDoorM6
import Derived.Test.YtonmdbdopchkaaaGreatDoorProg
set_option linter.all false
namespace Go.Proofs.YtonmdbdopchkaaaGreatDoor
open Go.RowKit
theorem Tryz.eNode:zCV Tryz.prog 51 4 64:=zE5 (z:= .agg #[.bool false,.int .i64 0,.slice none 0 0,.slice none 0 0]) (by kernel_rfl) rfl (by decide)
def NdL(Z:zD)(w:World):List zB->List (List Value)->Prop
 |[],[]=>True
 |f::fs,c::cs=>zd Z w c f∧NdL Z w fs cs
 | _,_=>False
theorem zd.size{Z:zD}{w:World}{cs:List Value}{n:zB}(h:zd Z w cs n):cs.length=4:=by
 obtain⟨vc,vk,rfl,_⟩:=h;rfl
theorem NdL.keep{Z:zD}{w w':World}(hk:zA Z w w'):∀{fs:List zB}{csl:List (List Value)},NdL Z w fs csl->NdL Z w' fs csl
 |[],[],_=>trivial
 | _::_,_::_,h=>⟨h.1.keep hk,NdL.keep hk h.2⟩
 |[],_::_,h=>h.elim
 | _::_,[],h=>h.elim
theorem NdL.mono{Z Z':zD}{w:World}(hz:∀b,Z b->Z' b):∀{fs:List zB}{csl:List (List Value)},NdL Z w fs csl->NdL Z' w fs csl
 |[],[],_=>trivial
 | _::_,_::_,h=>⟨h.1.mono hz,NdL.mono hz h.2⟩
 |[],_::_,h=>h.elim
 | _::_,[],h=>h.elim
theorem NdL.snoc{Z:zD}{w:World}{f:zB}{c:List Value}(hf:zd Z w c f):∀{fs:List zB}{csl:List (List Value)},NdL Z w fs csl->NdL Z w (fs++[f]) (csl++[c])
 |[],[],_=>⟨hf,trivial⟩
 | _::_,_::_,h=>⟨h.1,NdL.snoc hf h.2⟩
 |[],_::_,h=>h.elim
 | _::_,[],h=>h.elim
theorem NdL.size{Z:zD}{w:World}:∀{fs:List zB}{csl:List (List Value)},NdL Z w fs csl->csl.flatten.length=fs.length*4
 |[],[],_=>rfl
 |f::fs,c::cs,h=>by
  have hl:c.length=4:=h.1.size;rw[List.flatten_cons,List.length_append,NdL.size h.2,hl,List.length_cons];omega
 |[],_::_,h=>h.elim
 | _::_,[],h=>h.elim
theorem NdL.at_{Z:zD}{w:World}:∀{fs:List zB}{csl:List (List Value)},NdL Z w fs csl->∀i(hi:i<fs.length),∃cs,zd Z w cs fs[i]∧∀j u,cs[j]? =some u->csl.flatten[i*4+j]? =some u
 |[],[],_,i,hi=>absurd hi (Nat.not_lt_zero _)
 |f::fs,c::cs,h,0,_=>⟨c,h.1,λj u hu=>by
   rw[List.flatten_cons,Nat.zero_mul,Nat.zero_add,List.getElem?_append_left (by have:=List.getElem?_eq_some_iff.1 hu;exact this.1)];exact hu⟩
 |f::fs,c::cs,h,i+1,hi=>by
  obtain⟨d,hd,hc⟩:=NdL.at_ h.2 i (by simpa using hi);have hl:c.length=4:=h.1.size;refine⟨d,by simpa using hd,λj u hu=> ?_⟩;rw[List.flatten_cons,List.getElem?_append_right (by omega)];have:=hc j u hu;rwa[show(i+1)*4+j-c.length=i*4+j by omega]
 |[],_::_,h,_,_=>h.elim
 | _::_,[],h,_,_=>h.elim
def zCh(n:zB):ByteArray:=⟨(zDk n).toArray⟩
theorem zMp{m n:zB}(h:zCh m=zCh n):m=n:=by
 unfold zCh at h;injection h with h;exact zRD (by simpa using congrArg Array.toList h)
def zDU:List zB->Nat->List (ByteArray × Value)
 |[],_=>[]
 |n::r,i=>(zCh n,.int .i64 (i:Nat))::zDU r (i+1)
theorem zHk:∀(all:List zB)(i:Nat)(n:zB),zA5 (zDU all i) (zCh n)=if n∈all then some (.int .i64 ((i+all.idxOf n:Nat):Int))else none
 |[],_,_=>by simp[zDU,zA5]
 |m::r,i,n=>by
  unfold zDU zA5;by_cases h:n=m
  ·subst h;rw[if_pos rfl,if_pos (by simp)];simp
  ·rw[if_neg (λe=>h (zMp e)),zHk r (i+1) n];simp only[List.mem_cons,h,false_or];split
   ·rw[List.idxOf_cons];(have:(m==n)=false:=by simp;exact λe=>h e.symm);rw[this];simp;omega
   ·rfl
theorem zLO:∀(all:List zB)(i:Nat)(n:zB),n∉all->zAt (zDU all i) (zCh n) (.int .i64 ((i+all.length:Nat):Int))=zDU (all++[n]) i
 |[],_,_,_=>by simp[zDU,zAt]
 |m::r,i,n,h=>by
  simp only[List.mem_cons,not_or]at h;have ih:=zLO r (i+1) n h.2;simp only[zDU,zAt,List.cons_append,List.length_cons];rw[if_neg (λe=>h.1 (zMp e)),<-ih,show i+(r.length+1)=i+1+r.length by omega]
theorem Blk.grown{W W':World}{g:Nat}{t:TypeId}{cs:Array Value}{row:Option Nat}(h:Blk W g t cs)(hg:W.grownBy W' row)(hne:row≠some g):Blk W' g t cs:=(hg.block g h.lt λe=>hne e.symm).trans h
theorem zLt{W:World}{g:Nat}{t:TypeId}{cs:List Value}(h:Blk W g t cs.toArray):∀j u,cs[j]? =some u->W.cell? ⟨g,0+j,none⟩=some u:=λj u hu=>by
 rw[Nat.zero_add,h.cell];simpa using hu
theorem zAZ{w:World}{base n size:Nat}{e:TypeId}{v:Value}{xs:List Value}(h:w.ownsRow base e size v (n+1) xs):∃g cap,v= .slice (some ⟨g,0,none⟩) (n+1) cap:=by
 rcases h.2 with⟨_,h⟩|⟨g,cap,cur,rfl,_⟩
 ·omega
 ·exact⟨g,cap,rfl⟩
theorem zl{Z:zD}{w w':World}{base n size:Nat}{e:TypeId}{v:Value}{xs:List Value}(h:w.ownsRow base e size v n xs)(hk:zA Z w w')(hz:∀k,v.ownBlock=some k->Z k):w'.ownsRow base e size v n xs:=by
 refine⟨h.1,?_⟩;rcases h.2 with h|⟨g,cap,cur,rfl,hb,hg,h⟩
 ·exact Or.inl h
 ·have hlt:g<w.heap.size:=by
   rcases Nat.lt_or_ge g w.heap.size with h'|h'
   ·exact h'
   ·rw[Array.getElem?_eq_none h']at hg;cases hg
  exact Or.inr ⟨g,cap,cur,rfl,hb,(hk.block g hlt (hz g rfl)).trans hg,h⟩
theorem zHl{κ:Type}{enc:κ->Value}{w:World}{b base n size:Nat}{e:TypeId}{v:Value}{xs:List Value}{kv:List (κ × Value)}(h:w.ownsRow base e size v n xs)(hm:zu enc w b kv):v.ownBlock≠some b:=by
 obtain⟨es,clock,hb,_⟩:=hm;rcases h.2 with⟨rfl,_⟩|⟨g,cap,cur,rfl,_,hg,_⟩
 ·intro e;cases e
 ·intro e;injection e with e;simp only at e;subst e;rw[hb]at hg;injection hg with hg;cases hg
structure MkS (w:World) (M:Nat) (all:List zB) (F Z:Nat->Prop):Prop where
 ex:∃v mp csl,Blk w M 63 #[v,mp]∧w.ownsRow 0 51 4 v all.length csl.flatten∧NdL Z w all csl∧
  (mp= .map none∧all=[]∨∃b,mp= .map (some b)∧zu encS w b (zDU all 0)∧F b∧b≠M∧all≠[])∧(∀k,v.ownBlock=some k->F k∧k≠M)
 fM:F M
 sep:∀b,Z b->¬F b
 liveF:∀b,F b->b<w.heap.size
 liveZ:∀b,Z b->b<w.heap.size
theorem MkS.keep{w w':World}{M:Nat}{all:List zB}{F Z:Nat->Prop}(h:MkS w M all F Z)(hk:zA (λb=>F b∨Z b) w w'):MkS w' M all F Z:=by
 obtain⟨⟨v,mp,csl,h1,h2,h3,h4,h5⟩,hM,hs,hF,hZ⟩:=h;refine⟨⟨v,mp,csl,h1.keep hk (Or.inl hM),?_,NdL.keep (hk.mono λb _ hb=>Or.inr hb) h3,?_,h5⟩,hM,hs,λb hb=>Nat.lt_of_lt_of_le (hF b hb) hk.size,λb hb=>Nat.lt_of_lt_of_le (hZ b hb) hk.size⟩
 ·refine⟨h2.1,?_⟩;rcases h2.2 with h|⟨g,cap,cur,e,hb,hg,h⟩
  ·exact Or.inl h
  ·have hgF:=(h5 g (by rw[e];rfl)).1;exact Or.inr ⟨g,cap,cur,e,hb,(hk.block g (hF g hgF) (Or.inl hgF)).trans hg,h⟩
 ·rcases h4 with h|⟨b,e,hm,hb,hne⟩
  ·exact Or.inl h
  ·exact Or.inr ⟨b,e,hm.of_block (hk.block b (hF b hb) (Or.inl hb)),hb,hne⟩
theorem MkS.below{w w':World}{M:Nat}{all:List zB}{F Z:Nat->Prop}(h:MkS w M all F Z)(hb:Below w.heap.size w w'):MkS w' M all F Z:=h.keep (.of_below hb)
theorem MkS.mono{w:World}{M:Nat}{all:List zB}{F F' Z:Nat->Prop}(h:MkS w M all F Z)(hf:∀b,F b->F' b)(hs:∀b,Z b->¬F' b)(hl:∀b,F' b->b<w.heap.size):MkS w M all F' Z:=by
 obtain⟨⟨v,mp,csl,h1,h2,h3,h4,h5⟩,hM,_,hF,hZ⟩:=h;refine⟨⟨v,mp,csl,h1,h2,h3,?_,λk hk=>⟨hf _ (h5 k hk).1,(h5 k hk).2⟩⟩,hf _ hM,hs,hl,hZ⟩;rcases h4 with h|⟨b,e,hm,hb,hne⟩
 ·exact Or.inl h
 ·exact Or.inr ⟨b,e,hm,hf _ hb,hne⟩
theorem MkS.new(w:World):MkS (w.alloc (.cells #[.slice none 0 0,.map none] 63)) w.heap.size [] (λb=>b=w.heap.size) (λ_=>False):=
 ⟨⟨.slice none 0 0,.map none,[],Blk.new w _ _,World.ownsRow_nil _ _ _ _,trivial,Or.inl ⟨rfl,rfl⟩,λk hk=>by cases hk⟩,rfl,λb h=>h.elim,λb hb=>by subst hb;simp,λb h=>h.elim⟩
theorem zA.wide{Z:zD}{w w':World}(h:zA (λx=>Z x∧x<w.heap.size) w w'):zA Z w w':=h.mono λ_ hb hz=>⟨hz,hb⟩
def zCC(w:World)(M:Nat)(F Z:Nat->Prop)(r:Int × List zB)(e:Ending)(w':World):Prop:=
 e= .returned (.int .i64 r.1)∧(∃F',MkS w' M r.2 F' Z∧∀b,F' b->F b∨w.heap.size≤b)∧zA (λb=>¬F b) w w'
theorem zO3{wa w1 w5:World}{M b:Nat}{all:List zB}{Fa Z Zn:Nat->Prop}{v v5:Value}{csl:List (List Value)}{n:zB}{cs:List Value}{o:Obj}
  (h1:Blk wa M 63 #[v,.map (some b)])(_h2:wa.ownsRow 0 51 4 v all.length csl.flatten)(h3:NdL Z wa all csl)(h5:∀k,v.ownBlock=some k->Fa k∧k≠M)
  (hM:Fa M)(hbF:Fa b)(hbM:b≠M)(hvb:v.ownBlock≠some b)(hs:∀x,Z x->¬Fa x)(hF:∀x,Fa x->x<wa.heap.size)(hZ:∀x,Z x->x<wa.heap.size)(hn:zd Zn wa cs n)(hzn:∀x,Zn x->¬Fa x∧x<wa.heap.size)
  (hk1:zA (λc=>c≠b) wa w1)(hm1:zu encS w1 b (zDU (all++[n]) 0))(hg5:(w1.alloc o).drew.grownBy w5 v.ownBlock)(hown5:w5.ownsRow 0 51 4 v5 (all.length+1) (csl.flatten++cs))
  (hat5:v5.ownBlock=v.ownBlock∨v5.ownBlock=some (w1.alloc o).drew.heap.size):
  (∃F',MkS (w5.setCell ⟨M,0,none⟩ v5) M (all++[n]) F' (λx=>Z x∨Zn x)∧∀x,F' x->Fa x∨wa.heap.size≤x)∧zA (λx=>¬Fa x) wa (w5.setCell ⟨M,0,none⟩ v5):=by
 have hsz1:=hk1.size;have hk2:zA (λx=>¬Fa x) wa w5:=((hk1.mono λx _ hx e=>hx (e▸hbF)).trans (((zA.refl _ _).alloc o).drew)).grown hg5 (λk hk _ hx=>hx (h5 k hk).1);have hk3:zA (λx=>¬Fa x) wa (w5.setCell ⟨M,0,none⟩ v5):=hk2.setCell (λ_ hx=>hx hM) _;have hMlt:=h1.lt;have hblt:=hF b hbF;have hsz5:=hg5.size;have hsd:(w1.alloc o).drew.heap.size =w1.heap.size+1:=by show(w1.alloc o).heap.size =_;simp
 have hv5:∀k,v5.ownBlock=some k->(Fa k∨wa.heap.size≤k)∧k≠M∧k<w5.heap.size∧(k<wa.heap.size->Fa k):=λk hk=>by
  have hlt:=(hown5.lt k hk).2;rcases hat5 with e|e
  ·rw[e]at hk;exact⟨Or.inl (h5 k hk).1,(h5 k hk).2,hlt,λ_=>(h5 k hk).1⟩
  ·rw[hk]at e;injection e with e;exact⟨Or.inr (by omega),by omega,hlt,λh=>by omega⟩
 have hb5:w5.heap[b]? =w1.heap[b]? :=(hg5.block b (by omega) (λe=>hvb e.symm)).trans (Below.heap_alloc _ _ _ (by omega));have hM5:Blk w5 M 63 #[v,.map (some b)]:=((((h1.keep hk1 hbM.symm).alloc o).drew).grown hg5 (λe=>(h5 M e).2 rfl));refine⟨⟨λx=>Fa x∨v5.ownBlock=some x,⟨⟨v5,.map (some b),csl++[cs],hM5.set_ 0 v5,?_,?_,Or.inr ⟨b,rfl,(hm1.of_block hb5).of_block (Below.heap_setCell _ _ _ _ hbM),Or.inl hbF,hbM,by simp⟩,λk hk=>⟨Or.inr hk,(hv5 k hk).2.1⟩⟩,Or.inl hM,?_,?_,?_⟩,?_⟩,hk3⟩
 ·have:=zl (Z:=λc=>c≠M) hown5 ((zA.refl _ _).setCell (p:=⟨M,0,none⟩) (λ_ h=>h rfl) v5) (λk hk=>(hv5 k hk).2.1);rw[List.length_append,List.length_singleton,List.flatten_append];simpa using this
 ·exact NdL.snoc ((hn.keep (hk3.mono λx _ hx=>(hzn x hx).1)).mono λx hx=>Or.inr hx) (NdL.mono (λx hx=>Or.inl hx) (NdL.keep (hk3.mono λx _ hx=>hs x hx) h3))
 ·rintro x hx (h|h)
  ·rcases hx with hx|hx
   ·exact hs x hx h
   ·exact(hzn x hx).1 h
  ·have h4:=(hv5 x h).2.2.2;rcases hx with hx|hx
   ·exact hs x hx (h4 (hZ x hx))
   ·exact(hzn x hx).1 (h4 (hzn x hx).2)
 ·rintro x (h|h)
  ·have:=hF x h;have:=hk3.size;omega
  ·have:=(hv5 x h).2.2.1;simpa[World.setCell]using this
 ·rintro x (h|h)
  ·have:=hZ x h;have:=hk3.size;omega
  ·have:=(hzn x h).2;have:=hk3.size;omega
 ·rintro x (h|h)
  ·exact Or.inl h
  ·exact(hv5 x h).1
end Go.Proofs.YtonmdbdopchkaaaGreatDoor
