/- Lemmas. -/
import Derived.Test.YtommaegelgilnaaGreatDoorM12
import Derived.Test.YtommaegelgilnaaGreatDoorProg
set_option linter.all false
namespace Go.Proofs.YtommaegelgilnaaGreatDoor
open Go.RowKit
variable {F Z:Nat->Prop}{M:Nat}{W w w':World}{all g:List zB}{cs xs:List Value}{ds:List zE}{e t:TypeId}{i s x:Int}{n:zB}{v:Value}
theorem Tryz.eNode:zC2 Tryz.prog 123 4 64:=zDH (z:= .agg #[.bool false,.int .i64 0,.slice none 0 0,.slice none 0 0]) (by kernel_rfl) rfl (by decide)
def NdL(Z:zD)(w:World):List zB->List (List Value)->Prop
 |[],[]=>True
 |f::fs,c::cs=>zAY Z w c f/\NdL Z w fs cs
 | _,_=>False
theorem zAY.size{Z:zD}(h:zAY Z w cs n):cs.length=4:=by
 obtain⟨a,b,rfl,_⟩:=h;rfl
theorem NdL.keep{Z:zD}{w w':World}(b:zA Z w w'):∀{a:List zB}{csl:List (List Value)},NdL Z w a csl->NdL Z w' a csl
 |[],[],_=>trivial
 | _::_,_::_,h=>⟨h.1.keep b,NdL.keep b h.2⟩
 |[],_::_,h=>h.elim
 | _::_,[],h=>h.elim
theorem NdL.mono{Z Z':zD}{w:World}(c:∀b,Z b->Z' b):∀{a:List zB}{csl:List (List Value)},NdL Z w a csl->NdL Z' w a csl
 |[],[],_=>trivial
 | _::_,_::_,h=>⟨h.1.mono c,NdL.mono c h.2⟩
 |[],_::_,h=>h.elim
 | _::_,[],h=>h.elim
theorem NdL.snoc{Z:zD}{w:World}{f:zB}{c:List Value}(b:zAY Z w c f):∀{a:List zB}{csl:List (List Value)},NdL Z w a csl->NdL Z w (a++[f]) (csl++[c])
 |[],[],_=>⟨b,trivial⟩
 | _::_,_::_,h=>⟨h.1,NdL.snoc b h.2⟩
 |[],_::_,h=>h.elim
 | _::_,[],h=>h.elim
theorem NdL.at_{Z:zD}{w:World}:∀{a:List zB}{csl:List (List Value)},NdL Z w a csl->∀i(hi:i<a.length),∃cs,zAY Z w cs a[i]/\∀j u,cs[j]? =some u->csl.flatten[i*4+j]? =some u
 |[],[],_,i,hi=>absurd hi (Nat.not_lt_zero _)
 |f::a,c::cs,h,0,_=>⟨c,h.1,λj u b=>by
   rw[List.flatten_cons,Nat.zero_mul,Nat.zero_add,List.getElem?_append_left (by have:=List.getElem?_eq_some_iff.1 b;exact this.1)];exact b⟩
 |f::a,c::cs,h,i+1,hi=>by
  obtain⟨d,g,e⟩:=NdL.at_ h.2 i (by simpa using hi);have k:c.length=4:=h.1.size;refine⟨d,by simpa using g,λj u b=> ?_⟩;rw[List.flatten_cons,List.getElem?_append_right (by omega)];have:=e j u b;rwa[show(i+1)*4+j-c.length=i*4+j by omega]
 |[],_::_,h,_,_=>h.elim
 | _::_,[],h,_,_=>h.elim
def zDJ(n:zB):ByteArray:=⟨(zDx n).toArray⟩
theorem zME{m n:zB}(h:zDJ m=zDJ n):m=n:=by
 unfold zDJ at h;injection h with h;exact zP8 (by simpa using congrArg Array.toList h)
def zD9:List zB->Nat->List (ByteArray × Value)
 |[],_=>[]
 |n::r,i=>(zDJ n,.int .i64 (i:Nat))::zD9 r (i+1)
theorem zHj:∀(all:List zB)(i:Nat)(n:zB),zAA (zD9 all i) (zDJ n)=if n∈all then some (.int .i64 ((i+all.idxOf n:Nat):Int))else none
 |[],_,_=>by simp[zD9,zAA]
 |m::r,i,n=>by
  unfold zD9 zAA;by_cases h:n=m
  ·subst h;rw[if_pos rfl,if_pos (by simp)];simp
  rw[if_neg (λe=>h (zME e)),zHj r (i+1) n];simp only[List.mem_cons,h,false_or];split
  ·rw[List.idxOf_cons];(have:(m==n)=false:=by simp;exact λe=>h e.symm);rw[this];simp;omega
  rfl
theorem zKa:∀(all:List zB)(i:Nat)(n:zB),n∉all->zAq (zD9 all i) (zDJ n) (.int .i64 ((i+all.length:Nat):Int))=zD9 (all++[n]) i
 |[],_,_,_=>by simp[zD9,zAq]
 |m::r,i,n,h=>by
  simp only[List.mem_cons,not_or]at h;have ih:=zKa r (i+1) n h.2;simp only[zD9,zAq,List.cons_append,List.length_cons];rw[if_neg (λe=>h.1 (zME e)),<-ih,show i+(r.length+1)=i+1+r.length by omega]
theorem Blk.grown{W b:World}{g:Nat}{cs:Array Value}{row:Option Nat}(h:Blk W g t cs)(c:W.grownBy b row)(a:row≠some g):Blk b g t cs:=(c.block g h.lt λe=>a e.symm).trans h
theorem zNR{g:Nat}(h:Blk W g t cs.toArray):∀j u,cs[j]? =some u->W.cell? ⟨g,0+j,none⟩=some u:=λj u a=>by
 rw[Nat.zero_add,h.cell];simpa using a
theorem zBc{base n a:Nat}(h:w.ownsRow base e a v (n+1) xs):∃g cap,v= .slice (some ⟨g,0,none⟩) (n+1) cap:=by
 rcases h.2 with⟨_,h⟩|⟨g,cap,cur,rfl,_⟩
 ·omega
 exact⟨g,cap,rfl⟩
theorem zXL{Z:zD}{base n a:Nat}(h:w.ownsRow base e a v n xs)(m:zA Z w w')(o:∀k,v.ownBlock=some k->Z k):w'.ownsRow base e a v n xs:=by
 refine⟨h.1,?_⟩;rcases h.2 with h|⟨g,b,c,rfl,j,f,h⟩
 ·exact Or.inl h
 have i:g<w.heap.size:=by
  rcases Nat.lt_or_ge g w.heap.size with d|d
  ·exact d
  rw[Array.getElem?_eq_none d]at f;cases f
 exact Or.inr ⟨g,b,c,rfl,j,(m.block g i (o g rfl)).trans f,h⟩
theorem zHk{κ:Type}{enc:κ->Value}{b base n a:Nat}{i:List (κ × Value)}(h:w.ownsRow base e a v n xs)(f:zS enc w b i):v.ownBlock≠some b:=by
 obtain⟨j,c,d,_⟩:=f;rcases h.2 with⟨rfl,_⟩|⟨g,cap,cur,rfl,_,hg,_⟩
 ·intro e;cases e
 intro e;injection e with e;simp only at e;subst e;rw[d]at hg;injection hg with hg;cases hg
structure MkS (w:World) (M:Nat) (all:List zB) (F Z:Nat->Prop):Prop where
 ex:∃v mp csl,Blk w M 177 #[v,mp]/\w.ownsRow 0 123 4 v all.length csl.flatten/\NdL Z w all csl/\
  (mp= .map none/\all=[]\/∃b,mp= .map (some b)/\zS encS w b (zD9 all 0)/\F b/\b≠M/\all≠[])/\(∀k,v.ownBlock=some k->F k/\k≠M)
 fM:F M
 sep:∀b,Z b->¬F b
 liveF:∀b,F b->b<w.heap.size
 liveZ:∀b,Z b->b<w.heap.size
theorem MkS.keep(h:MkS w M all F Z)(c:zA (λb=>F b\/Z b) w w'):MkS w' M all F Z:=by
 obtain⟨⟨v,A,i,q,m,s,t,n⟩,o,z,hF,u⟩:=h;refine⟨⟨v,A,i,q.keep c (Or.inl o),?_,NdL.keep (c.mono λb _ a=>Or.inr a) s,?_,n⟩,o,z,λb a=>Nat.lt_of_lt_of_le (hF b a) c.size,λb a=>Nat.lt_of_lt_of_le (u b a) c.size⟩
 ·refine⟨m.1,?_⟩;rcases m.2 with h|⟨g,f,j,e,a,x,h⟩
  ·exact Or.inl h
  have d:=(n g (by rw[e];rfl)).1;exact Or.inr ⟨g,f,j,e,a,(c.block g (hF g d) (Or.inl d)).trans x,h⟩
 rcases t with h|⟨b,e,y,a,k⟩
 ·exact Or.inl h
 exact Or.inr ⟨b,e,y.of_block (c.block b (hF b a) (Or.inl a)),a,k⟩
theorem MkS.below(h:MkS w M all F Z)(a:Bw w w'):MkS w' M all F Z:=h.keep (.of_below a)
theorem MkS.new(w:World):MkS (w.alloc (.cells #[.slice none 0 0,.map none] 177)) w.heap.size [] (λb=>b=w.heap.size) (λ_=>False):=
 ⟨⟨.slice none 0 0,.map none,[],Blk.new w _ _,World.ownsRow_nil _ _ _ _,trivial,Or.inl ⟨rfl,rfl⟩,λk c=>by cases c⟩,rfl,λb h=>h.elim,λb a=>by subst a;simp,λb h=>h.elim⟩
theorem zA.wide{Z:zD}(h:zA (λx=>Z x/\x<w.heap.size) w w'):zA Z w w':=h.mono λ_ a b=>⟨b,a⟩
def zC3(w:World)(M:Nat)(F Z:Nat->Prop)(r:Int × List zB)(e:Ending)(w':World):Prop:=
 e= .returned (.int .i64 r.1)/\(∃F',MkS w' M r.2 F' Z/\∀b,F' b->F b\/w.heap.size<=b)/\zA (λb=>¬F b) w w'
theorem zNS{d u t:World}{M b:Nat}{Fa Z Zn:Nat->Prop}{v q:Value}{csl:List (List Value)}{o:Obj}
  (J:Blk d M 177 #[v,.map (some b)])(T:d.ownsRow 0 123 4 v all.length csl.flatten)(U:NdL Z d all csl)(A:∀k,v.ownBlock=some k->Fa k/\k≠M)
  (L:Fa M)(w:Fa b)(y:b≠M)(I:v.ownBlock≠some b)(H:∀x,Z x->¬Fa x)(hF:∀x,Fa x->x<d.heap.size)(O:∀x,Z x->x<d.heap.size)(V:zAY Zn d cs n)(m:∀x,Zn x->¬Fa x/\x<d.heap.size)
  (z:zA (λc=>c≠b) d u)(G:zS encS u b (zD9 (all++[n]) 0))(s:(u.alloc o).drew.grownBy t v.ownBlock)(i:t.ownsRow 0 123 4 q (all.length+1) (csl.flatten++cs))
  (B:q.ownBlock=v.ownBlock\/q.ownBlock=some (u.alloc o).drew.heap.size):
  (∃F',MkS (t.setCell ⟨M,0,none⟩ q) M (all++[n]) F' (λx=>Z x\/Zn x)/\∀x,F' x->Fa x\/d.heap.size<=x)/\zA (λx=>¬Fa x) d (t.setCell ⟨M,0,none⟩ q):=by
 have Q:=z.size;have F:zA (λx=>¬Fa x) d t:=((z.mono λx _ a e=>a (e▸w)).trans (((zA.refl _ _).alloc o).drew)).grown s (λk f _ a=>a (A k f).1);have g:zA (λx=>¬Fa x) d (t.setCell ⟨M,0,none⟩ q):=F.setCell (λ_ a=>a L) _;have N:=J.lt;have P:=hF b w;have R:=s.size;have W:(u.alloc o).drew.heap.size =u.heap.size+1:=by show(u.alloc o).heap.size =_;simp
 have j:∀k,q.ownBlock=some k->(Fa k\/d.heap.size<=k)/\k≠M/\k<t.heap.size/\(k<d.heap.size->Fa k):=λk f=>by
  have C:=(i.lt k f).2;rcases B with e|e
  ·rw[e]at f;exact⟨Or.inl (A k f).1,(A k f).2,C,λ_=>(A k f).1⟩
  rw[f]at e;injection e with e;exact⟨Or.inr (by omega),by omega,C,λh=>by omega⟩
 have E:t.heap[b]? =u.heap[b]? :=(s.block b (by omega) (λe=>I e.symm)).trans (Below.heap_alloc _ _ _ (by omega));have D:Blk t M 177 #[v,.map (some b)]:=((((J.keep z y.symm).alloc o).drew).grown s (λe=>(A M e).2 rfl));refine⟨⟨λx=>Fa x\/q.ownBlock=some x,⟨⟨q,.map (some b),csl++[cs],D.set_ 0 q,?_,?_,Or.inr ⟨b,rfl,(G.of_block E).of_block (Below.heap_setCell _ _ _ _ y),Or.inl w,y,by simp⟩,λk f=>⟨Or.inr f,(j k f).2.1⟩⟩,Or.inl L,?_,?_,?_⟩,?_⟩,g⟩
 ·have:=zXL (Z:=λc=>c≠M) i ((zA.refl _ _).setCell (p:=⟨M,0,none⟩) (λ_ h=>h rfl) q) (λk f=>(j k f).2.1);rw[List.length_append,List.length_singleton,List.flatten_append];simpa using this
 ·exact NdL.snoc ((V.keep (g.mono λx _ a=>(m x a).1)).mono λx a=>Or.inr a) (NdL.mono (λx a=>Or.inl a) (NdL.keep (g.mono λx _ a=>H x a) U))
 ·rintro x a (h|h)
  ·rcases a with a|a
   ·exact H x a h
   exact(m x a).1 h
  have K:=(j x h).2.2.2;rcases a with a|a
  ·exact H x a (K (O x a))
  exact(m x a).1 (K (m x a).2)
 ·rintro x (h|h)
  ·have:=hF x h;have:=g.size;omega
  have:=(j x h).2.2.1;simpa[World.setCell]using this
 ·rintro x (h|h)
  ·have:=O x h;have:=g.size;omega
  have:=(m x h).2;have:=g.size;omega
 rintro x (h|h)
 ·exact Or.inl h
 exact(j x h).1
def zCp:List Int->Int->List Int
 |[],n=>[n]
 |a::r,n=>if n<a then n::a::r else if n=a then a::r else a::zCp r n
def zEJ(l:List Int):List Int:=l.foldl zCp []
theorem zS4(l:List Int)(n v:Int):v∈zCp l n↔v=n\/v∈l:=by
 induction l with
 |nil=>simp[zCp]
 |cons a r ih=>
 unfold zCp;split
 ·simp
 split
 ·rename_i h;subst h;simp
 simp only[List.mem_cons,ih];constructor
 ·rintro(h|h|h)<;>simp[h]
 rintro(h|h|h)<;>simp[h]
theorem zNU:∀{l:List Int}{lo hi n:Int},zAE lo hi l->lo<n->n<=hi->zAE lo hi (zCp l n)
 |[],_,_,_,_,h1,h2=>⟨h1,h2,trivial⟩
 |a::r,lo,hi,n,h,h1,h2=>by
  unfold zCp;split
  ·rename_i ha;exact⟨h1,h2,ha,h.2.1,h.2.2⟩
  split
  ·exact h
  exact⟨h.1,h.2.1,zNU h.2.2 (by omega) h2⟩
theorem zL7(l:List Int):∀(m:List Int)(v:Int),v∈l.foldl zCp m↔v∈m\/v∈l:=by
 induction l with
 |nil=>intro m v;simp
 |cons a r ih=>
 intro m v;rw[List.foldl_cons,ih,zS4];simp only[List.mem_cons];constructor
 ·rintro((h|h)|h)
  ·exact Or.inr (Or.inl h)
  ·exact Or.inl h
  exact Or.inr (Or.inr h)
 rintro(h|h|h)
 ·exact Or.inl (Or.inr h)
 ·exact Or.inl (Or.inl h)
 exact Or.inr h
theorem zH5{lo hi:Int}:∀(l m:List Int),zAE lo hi m->(∀v∈l,lo<v/\v<=hi)->zAE lo hi (l.foldl zCp m)
 |[],_,h,_=>h
 |a::r,m,h,hl=>zH5 r _ (zNU h (hl a (by simp)).1 (hl a (by simp)).2) λv b=>hl v (List.mem_cons_of_mem _ b)
theorem zFi(l:List Int)(v:Int):v∈zEJ l↔v∈l:=by unfold zEJ;rw[zL7];simp
theorem zFj{lo hi:Int}{l:List Int}(h:∀v∈l,lo<v/\v<=hi):zAE lo hi (zEJ l):=zH5 l [] trivial h
theorem zE4:∀{l:List Int}{lo hi v:Int},zAE lo hi l->lo<=v->zXM lo l (nx l v)<=v
 |[],_,_,_,_,h=>by simpa[nx,zXM]using h
 |c::r,lo,hi,v,h,hv=>by
  unfold nx;split
  ·simpa[zXM]using hv
  have:=zE4 (l:=r) (lo:=c) (v:=v) h.2.2 (by omega);unfold zXM at this⊢;simp only[Nat.succ_ne_zero,if_false,Nat.add_sub_cancel];split at this
  ·rename_i h0;rw[h0];simpa using this
  rename_i h0;obtain⟨q,a⟩:∃q,nx r v=q+1:=⟨nx r v-1,by omega⟩;rw[a]at this⊢;simpa using this
theorem zEv:∀{l:List Int}{lo hi v x:Int},zAE lo hi l->x∈l->zXM lo l (nx l v)<x->v<x
 |[],_,_,_,_,_,h,_=>absurd h (by simp)
 |c::r,lo,hi,v,x,h,b,hs=>by
  unfold nx at hs;by_cases e:v<c
  ·rcases List.mem_cons.1 b with rfl|b
   ·exact e
   have:=(zBZ h.2.2 x b).1;omega
  rw[if_neg e]at hs
  have a:zXM c r (nx r v)<x:=by
   unfold zXM at hs⊢;simp only[Nat.succ_ne_zero,if_false,Nat.add_sub_cancel]at hs;split
   ·rename_i h0;rw[h0]at hs;simpa using hs
   rename_i h0;obtain⟨q,f⟩:∃q,nx r v=q+1:=⟨nx r v-1,by omega⟩;rw[f]at hs⊢;simpa using hs
  rcases List.mem_cons.1 b with rfl|b
  ·have:=zE4 (l:=r) (lo:=x) (v:=v) h.2.2 (by omega);unfold zXM at a;split at a
   ·omega
   exfalso;(have d:nx r v-1<r.length:=by have:=zEr r v;omega);rw[List.getD_eq_getElem?_getD,List.getElem?_eq_getElem d]at a;have:=(zBZ h.2.2 _ (List.getElem_mem d)).1;simp at a;omega
  exact zEv h.2.2 b a
theorem zPL{m:List Int}{v s:Int}(e:s<=v)(a:∀x∈m,s<x->v<x):nx m s=nx m v:=by
 induction m with
 |nil=>rfl
 |cons c r ih=>
 unfold nx;have b:=a c (by simp);by_cases h:s<c
 ·rw[if_pos h,if_pos (b h)]
 rw[if_neg h,if_neg (by omega),ih λx d=>a x (List.mem_cons_of_mem _ d)]
def kvI{κ:Type}[DecidableEq κ]:List (κ × Int)->κ->Option Int
 |[],_=>none
 |p::r,x=>if x=p.1 then some p.2 else kvI r x
def zCd{κ:Type}[DecidableEq κ]:List (κ × Int)->κ->Int->List (κ × Int)
 |[],x,v=>[(x,v)]
 |p::r,x,v=>if x=p.1 then(p.1,v)::r else p::zCd r x v
theorem zH6{κ:Type}[DecidableEq κ]{x:κ}{v:Int}:∀{l:List (κ × Int)},kvI l x=some v->(x,v)∈l
 |[],h=>by simp[kvI]at h
 |p::r,h=>by
  unfold kvI at h;split at h
  ·rename_i e;injection h with h;subst h;subst e;simp
  exact List.mem_cons_of_mem _ (zH6 h)
theorem zEw{κ:Type}[DecidableEq κ]{x:κ}{v:Int}{p:κ × Int}:∀{l:List (κ × Int)},p∈zCd l x v->p∈l\/p=(x,v)
 |[],h=>by simp[zCd]at h;exact Or.inr h
 |q::r,h=>by
  unfold zCd at h;split at h
  ·rename_i e;subst e;rcases List.mem_cons.1 h with h|h
   ·exact Or.inr h
   exact Or.inl (List.mem_cons_of_mem _ h)
  rcases List.mem_cons.1 h with h|h
  ·exact Or.inl (by simp[h])
  rcases zEw h with h|h
  ·exact Or.inl (List.mem_cons_of_mem _ h)
  exact Or.inr h
def zU(ds:List zE)(n:zB):Int:=if n.kids=[]then ds.length else n.fact
def zAQ(g:List zB)(at_ i v:Int):Int:=if(nAt g at_).kids ≠[]/\(nAt g at_).fact =i then(nAt g at_).kids.getD (nx (nAt g at_).cuts v) 0 else at_
structure ASt where
 all:List zB
 done:List ((Int × Int) × Int)
def zAM(ds:List zE)(p q:zB):List Int:=
 (fAt ds (min (zU ds p) (zU ds q))).lo ::zEJ ((if zU ds p=min (zU ds p) (zU ds q)then p.cuts else[])++(if zU ds q=min (zU ds p) (zU ds q)then q.cuts else[]))
def zW{σ:Type}(f:Int->σ->Int × σ):List Int->σ->List Int × σ
 |[],st=>([],st)
 |v::l,st=>((f v st).1::(zW f l (f v st).2).1,(zW f l (f v st).2).2)
def zAe(ds:List zE)(a b:List zB):Nat->Int->Int->ASt->Int × ASt
 |0,_,_,st=>(0,st)
 |k+1,x,y,st=>
 match kvI st.done (x,y)with
 |some r=>(r,st)
 |none=>
 if min (zU ds (nAt a x)) (zU ds (nAt b y))=ds.length\/4000<st.all.length then
  ((zy st.all ⟨(nAt a x).leaf &&(nAt b y).leaf,0,[],[]⟩).1,⟨(zy st.all ⟨(nAt a x).leaf &&(nAt b y).leaf,0,[],[]⟩).2,st.done⟩)
 else
  let i:=min (zU ds (nAt a x)) (zU ds (nAt b y));let r:=zW (λv st=>zAe ds a b k (zAQ a x i v) (zAQ b y i v) st) (zAM ds (nAt a x) (nAt b y)) st;let o:=zAb r.2.all i (zAM ds (nAt a x) (nAt b y)) r.1
  (o.1,⟨o.2,zCd r.2.done (x,y) o.1⟩)
theorem zFX(all:List zB)(n:zB):∃t,(zy all n).2=all++t:=by
 unfold zy;split
 ·exact⟨[],by simp⟩
 exact⟨[n],rfl⟩
theorem zFk(all:List zB)(i:Int)(s k:List Int):∃t,(zAb all i s k).2=all++t:=by
 unfold zAb;split
 ·exact⟨[],by simp⟩
 exact zFX _ _
theorem zGt{g b a:List zB}(h:∃t,b=g++t)(k:∃t,a=b++t):∃t,a=g++t:=by
 obtain⟨t,rfl⟩:=h;obtain⟨u,rfl⟩:=k;exact⟨t++u,by simp⟩
theorem zGu{f:Int->ASt->Int × ASt}(h:∀v st,∃t,(f v st).2.all =st.all++t):∀(l:List Int)(st:ASt),∃t,(zW f l st).2.all =st.all++t
 |[],st=>⟨[],by simp[zW]⟩
 |v::l,st=>zGt (h v st) (zGu h l _)
theorem zG2(ds:List zE)(a b:List zB):∀(k:Nat)(x y:Int)(st:ASt),∃t,(zAe ds a b k x y st).2.all =st.all++t
 |0,_,_,st=>⟨[],by simp[zAe]⟩
 |k+1,x,y,st=>by
  unfold zAe;split
  ·exact⟨[],by simp⟩
  split
  ·exact zFX _ _
  exact zGt (zGu (λv st=>zG2 ds a b k _ _ st) _ st) (zFk _ _ _ _)
theorem zNV{g a:List zB}(h:∃t,a=g++t):g.length<=a.length:=by obtain⟨t,rfl⟩:=h;simp
theorem zFu:∀{α:Type}[DecidableEq α](l m:List α),l.Nodup->(∀x∈l,x∈m)->l.length<=m.length
 | _,_,[],_,_,_=>Nat.zero_le _
 | _,_,a::l,m,hn,h=>by
  have b:=List.nodup_cons.1 hn
  have f:=zFu l (m.erase a) b.2 λx d=>by
   (have c:x≠a:=λe=>b.1 (e▸d));exact(List.mem_erase_of_ne c).2 (h x (List.mem_cons_of_mem _ d))
  have g:=List.length_erase_of_mem (h a (by simp));have i:=List.length_pos_of_mem (h a (by simp));simp only[List.length_cons];omega
section both
variable {ds:List zE} {a b:List zB}
def Closed(ds:List zE)(a b:List zB)(P:List (Int × Int)):Prop:=
 ∀p∈P,Rng a p.1/\Rng b p.2/\∀v,(zAQ a p.1 (min (zU ds (nAt a p.1)) (zU ds (nAt b p.2))) v,zAQ b p.2 (min (zU ds (nAt a p.1)) (zU ds (nAt b p.2))) v)∈P
structure For (ds:List zE) (a b all:List zB) (x y r:Int):Prop where
 rng:Rng all r
 says:∀c,Fit ds c->S ds all r c=(S ds a x c&&S ds b y c)
 low:(nAt all r).kids ≠[]->min (zU ds (nAt a x)) (zU ds (nAt b y))<=(nAt all r).fact
theorem For.app{all d:List zB}{x y r:Int}(h:For ds a b all x y r)(g:Good ds all)(e:Good ds d)(i:∃t,d=all++t):For ds a b d x y r:=by
 obtain⟨t,rfl⟩:=i;exact⟨h.rng.app t,λc f=>by rw[zNO g e h.rng];exact h.says c f,by rw[zFU h.rng];exact h.low⟩
structure zHM (ds:List zE) (a b:List zB) (P:List (Int × Int)) (st:ASt):Prop where
 good:Good ds st.all
 done:∀p∈st.done,For ds a b st.all p.1.1 p.1.2 p.2
 from_:∀j,Rng st.all j->∃p∈P,∀c,Fit ds c->S ds st.all j c=(S ds a p.1 c&&S ds b p.2 c)
theorem zHM.length_le{P:List (Int × Int)}{st:ASt}(n:zDt ds)(h:zHM ds a b P st):st.all.length<=P.length:=by
 have g:∀j:Nat,∃p:Int × Int,j<st.all.length->p∈P/\∀c,Fit ds c->S ds st.all j c=(S ds a p.1 c&&S ds b p.2 c):=λj=>by
  by_cases d:j<st.all.length
  ·obtain⟨p,m,e⟩:=h.from_ j ⟨by omega,by omega⟩;exact⟨p,λ_=>⟨m,e⟩⟩
  exact⟨(0,0),λh=>absurd h d⟩
 obtain⟨f,k⟩:=Classical.axiomOfChoice g
 have:=zFu ((List.range st.all.length).map f) P (by
  show List.Pairwise (· ≠ ·) _;rw[List.pairwise_map];refine List.Pairwise.imp_of_mem (R:=(· ≠ ·)) (λ{i j} hi d hne e=>hne ?_) List.nodup_range;rw[List.mem_range]at hi d
  have:=h.good.uniq n (a:=(i:Int)) (b:=(j:Int)) ⟨by omega,by omega⟩ ⟨by omega,by omega⟩ λc g=>by
   rw[(k i hi).2 c g,(k j d).2 c g,e]
  omega) (λp m=>by
  obtain⟨j,d,rfl⟩:=List.mem_map.1 m
  exact(k j (List.mem_range.1 d)).1)
 simpa using this
theorem zDy(d:Good ds a){x i v:Int}(c:Rng a x)(hi:i<=zU ds (nAt a x))(hid:i<ds.length):Rng a (zAQ a x i v)/\i<zU ds (nAt a (zAQ a x i v)):=by
 unfold zAQ;by_cases h:(nAt a x).kids ≠[]/\(nAt a x).fact =i
 ·rw[if_pos h];have I:=d.inner c h.1;have b:=I.kid_rng v;refine⟨I.rng _ b,?_⟩;unfold zU;split
  ·exact hid
  rename_i hk;have:=I.up _ b hk;rw[<-h.2];exact this
 rw[if_neg h];refine⟨c,?_⟩;unfold zU at hi⊢;split
 ·exact hid
 rename_i hk;rw[if_neg hk]at hi;have:(nAt a x).fact ≠i:=λe=>h ⟨hk,e⟩
 omega
theorem zRH(d:Good ds a)(f:Rng a x)(c:List Int)(b:0<=i)
  (e:(nAt a x).kids ≠[]->(nAt a x).fact =i->nx (nAt a x).cuts s=nx (nAt a x).cuts (c.getD i.toNat 0)):S ds a (zAQ a x i s) c=S ds a x c:=by
 unfold zAQ;by_cases h:(nAt a x).kids ≠[]/\(nAt a x).fact =i
 ·rw[if_pos h,d.S_inner f h.1,h.2,e h.1 h.2]
 rw[if_neg h]
theorem zEk(b:Good ds a)(c:Rng a x):0<=zU ds (nAt a x)/\zU ds (nAt a x)<=ds.length:=by
 unfold zU;split
 ·omega
 rename_i hk;have I:=b.inner c hk;have:=I.f0;have:=I.f1;omega
theorem zC4{σ:Type}{f:Int->σ->Int × σ}:∀(l:List Int)(st:σ),(zW f l st).1.length =l.length
 |[],_=>rfl
 |v::l,st=>by simp[zW,zC4 l]
theorem zIg(hl:zDt ds)(J:Good ds a)(K:Good ds b){P:List (Int × Int)}(hP:Closed ds a b P):∀(k:Nat)(x y:Int)(st:ASt),(x,y)∈P->
  ds.length-(min (zU ds (nAt a x)) (zU ds (nAt b y))).toNat <k->zHM ds a b P st->(P.length<=4000\/(zAe ds a b k x y st).2.all.length <=4000)->
  zHM ds a b P (zAe ds a b k x y st).2/\For ds a b (zAe ds a b k x y st).2.all x y (zAe ds a b k x y st).1
 |0,_,_,_,_,h,_,_=>by omega
 |k+1,x,y,st,hxy,hk,g,m=>by
  have ah:=zG2 ds a b (k+1) x y st;have F:=zNV ah;obtain⟨H,U,Y⟩:=hP _ hxy;simp only at H U Y;have ax:=zEk J H;have ay:=zEk K U
  have au:st.all.length<=4000:=by
   rcases m with h|h
   ·exact Nat.le_trans (g.length_le hl) h
   exact Nat.le_trans F h
  unfold zAe at m⊢
  cases R:kvI st.done (x,y)with
  |some r=>
   simp only[R]at m⊢;exact⟨g,g.done _ (zH6 R)⟩
  |none=>
  simp only[R]at m⊢;by_cases A:min (zU ds (nAt a x)) (zU ds (nAt b y))=ds.length\/4000<st.all.length
  ·simp only[if_pos A]at m⊢
   have s:min (zU ds (nAt a x)) (zU ds (nAt b y))=ds.length:=by
    rcases A with h|h
    ·exact h
    omega
   have kx:(nAt a x).kids =[]:=by
    by_cases h:(nAt a x).kids =[]
    ·exact h
    have I:=J.inner H h;have:=I.f1;unfold zU at s;rw[if_neg h]at s;omega
   have ky:(nAt b y).kids =[]:=by
    by_cases h:(nAt b y).kids =[]
    ·exact h
    have I:=K.inner U h;have:=I.f1;unfold zU at s;rw[if_neg h]at s;omega
   obtain⟨M,O⟩:=zI8 g.good (n:=⟨(nAt a x).leaf &&(nAt b y).leaf,0,[],[]⟩) (Or.inl ⟨rfl,rfl,rfl⟩);have aq:=zFX st.all ⟨(nAt a x).leaf &&(nAt b y).leaf,0,[],[]⟩
   have B:∀j,Rng (zy st.all ⟨(nAt a x).leaf &&(nAt b y).leaf,0,[],[]⟩).2 j->Rng st.all j\/j=(zy st.all ⟨(nAt a x).leaf &&(nAt b y).leaf,0,[],[]⟩).1:=by
    intro j d;unfold zy at d⊢;split at d
    ·exact Or.inl d
    rename_i hm;rw[if_neg hm];have V:=d.1;have u:=d.2;simp at u;by_cases e:j=(st.all.length:Nat)
    ·exact Or.inr e
    exact Or.inl ⟨V,by omega⟩
   generalize zy st.all ⟨(nAt a x).leaf &&(nAt b y).leaf,0,[],[]⟩=r at*;have hF:For ds a b r.2 x y r.1:=⟨M.rng,λc _=>by rw[M.good.S_leaf (by rw[O]),O,J.S_leaf kx,K.S_leaf ky],λh=>absurd (by rw[O]) h⟩;refine⟨⟨M.good,λp C=>(g.done p C).app g.good M.good M.pre,λj d=> ?_⟩,hF⟩;rcases B j d with h|h
   ·obtain⟨p,C,e⟩:=g.from_ j h;exact⟨p,C,λc W=>by rw[M.S_old g.good h];exact e c W⟩
   subst h;exact⟨_,hxy,hF.says⟩
  simp only[if_neg A]at m⊢;have hi:min (zU ds (nAt a x)) (zU ds (nAt b y))<ds.length:=by omega
  have af:∃rest,zAM ds (nAt a x) (nAt b y)=(fAt ds (min (zU ds (nAt a x)) (zU ds (nAt b y)))).lo ::rest/\zAE (fAt ds (min (zU ds (nAt a x)) (zU ds (nAt b y)))).lo (fAt ds (min (zU ds (nAt a x)) (zU ds (nAt b y)))).hi rest/\
    ((nAt a x).kids ≠[]->(nAt a x).fact =min (zU ds (nAt a x)) (zU ds (nAt b y))->∀v∈(nAt a x).cuts,v∈rest)/\((nAt b y).kids ≠[]->(nAt b y).fact =min (zU ds (nAt a x)) (zU ds (nAt b y))->∀v∈(nAt b y).cuts,v∈rest):=by
   refine⟨_,rfl,zFj λv t=> ?_,λu N v t=> ?_,λu N v t=> ?_⟩
   ·rcases List.mem_append.1 t with t|t
    ·split at t
     ·rename_i e;rcases J.proper _ (zEj H)with h|h
      ·rw[h.2.2]at t;simp at t
      (have:zU ds (nAt a x)=(nAt a x).fact :=by unfold zU;rw[if_neg h.ne]);rw[<-e,this];exact zBZ h.asc v t
     simp at t
    split at t
    ·rename_i e;rcases K.proper _ (zEj U)with h|h
     ·rw[h.2.2]at t;simp at t
     (have:zU ds (nAt b y)=(nAt b y).fact :=by unfold zU;rw[if_neg h.ne]);rw[<-e,this];exact zBZ h.asc v t
    simp at t
   ·rw[zFi,List.mem_append];left;rw[if_pos (by rw[<-N];unfold zU;rw[if_neg u])];exact t
   rw[zFi,List.mem_append];right;rw[if_pos (by rw[<-N];unfold zU;rw[if_neg u])];exact t
  obtain⟨rest,al,w,ai,aj⟩:=af;have ak:0<=min (zU ds (nAt a x)) (zU ds (nAt b y)):=by omega
  have aa:min (zU ds (nAt a x)) (zU ds (nAt b y))<=zU ds (nAt a x):=by omega
  have ab:min (zU ds (nAt a x)) (zU ds (nAt b y))<=zU ds (nAt b y):=by omega
  generalize ar:min (zU ds (nAt a x)) (zU ds (nAt b y))=i at*
  have ac:∀(l:List Int)(st:ASt),zHM ds a b P st->(P.length<=4000\/(zW (λv st=>zAe ds a b k (zAQ a x i v) (zAQ b y i v) st) l st).2.all.length <=4000)->
    zHM ds a b P (zW (λv st=>zAe ds a b k (zAQ a x i v) (zAQ b y i v) st) l st).2/\
    ∀j,j<l.length->For ds a b (zW (λv st=>zAe ds a b k (zAQ a x i v) (zAQ b y i v) st) l st).2.all (zAQ a x i (l.getD j 0)) (zAQ b y i (l.getD j 0)) ((zW (λv st=>zAe ds a b k (zAQ a x i v) (zAQ b y i v) st) l st).1.getD j 0):=by
   intro l
   induction l with
   |nil=>intro st g _;exact⟨g,λj d=>absurd d (by simp)⟩
   |cons v l ih=>
   intro st g m;have sx:=zDy J (v:=v) H aa hi;have sy:=zDy K (v:=v) U ab hi;have ag:=zGu (f:=λv st=>zAe ds a b k (zAQ a x i v) (zAQ b y i v) st) (λv st=>zG2 ds a b k _ _ st) l (zAe ds a b k (zAQ a x i v) (zAQ b y i v) st).2;have F:=zNV ag;obtain⟨E,L⟩:=zIg hl J K hP k (zAQ a x i v) (zAQ b y i v) st (Y v) (by omega) g (m.imp id λh=>Nat.le_trans F h);obtain⟨A2,F2⟩:=ih _ E m;refine⟨A2,λj d=> ?_⟩
   cases j with
   |zero=>exact L.app E.good A2.good ag
   |succ j=>exact F2 j (by simpa using d)
  have ao:=zFk (zW (λv st=>zAe ds a b k (zAQ a x i v) (zAQ b y i v) st) (zAM ds (nAt a x) (nAt b y)) st).2.all i (zAM ds (nAt a x) (nAt b y)) (zW (λv st=>zAe ds a b k (zAQ a x i v) (zAQ b y i v) st) (zAM ds (nAt a x) (nAt b y)) st).1;obtain⟨E,L⟩:=ac (zAM ds (nAt a x) (nAt b y)) st g (m.imp id λh=>Nat.le_trans (zNV ao) h);have G:=zC4 (f:=λv st=>zAe ds a b k (zAQ a x i v) (zAQ b y i v) st) (zAM ds (nAt a x) (nAt b y)) st;rw[al]at E L G⊢;generalize zW (λv st=>zAe ds a b k (zAQ a x i v) (zAQ b y i v) st) ((fAt ds i).lo ::rest) st=r at*;obtain⟨kids,D⟩:=r;simp only at E L G⊢
  cases kids with
  |nil=>simp at G
  |cons k0 ks=>
  have ad:rest.length=ks.length:=by simpa using G.symm
  obtain⟨n,hn⟩:=Int.eq_ofNat_of_zero_le ak;subst hn;have hn:n<ds.length:=by omega
  have X:∀q∈k0::ks,∃j,j<((fAt ds (n:Int)).lo ::rest).length /\q=(k0::ks).getD j 0:=λq T=>by
   obtain⟨j,d,rfl⟩:=List.getElem_of_mem T;exact⟨j,by simp only[List.length_cons]at d⊢;omega,by rw[List.getD_eq_getElem?_getD,List.getElem?_eq_getElem d];rfl⟩
  have Q:fAt ds (n:Int)=ds.getD n zAP:=by unfold fAt;rw[Int.toNat_natCast]
  obtain⟨M,hS,ae⟩:=zK5 E.good hn ad (by rw[<-Q];exact w) (λq T=>by obtain⟨j,d,rfl⟩:=X q T;exact(L j d).rng) (λq T ap=>by
   obtain⟨j,d,rfl⟩:=X q T;have:=(L j d).low ap;have sx:=zDy J (v:=((fAt ds (n:Int)).lo ::rest).getD j 0) H aa hi;have sy:=zDy K (v:=((fAt ds (n:Int)).lo ::rest).getD j 0) U ab hi
   omega)
  rw[Q]
  have B:∀j,Rng (zAb D.all n ((ds.getD n zAP).lo ::rest) (k0::ks)).2 j->Rng D.all j\/j=(zAb D.all n ((ds.getD n zAP).lo ::rest) (k0::ks)).1:=by
   intro j d;unfold zAb zy at d⊢;split at d
   ·exact Or.inl d
   rename_i hm;rw[if_neg hm];split at d
   ·exact Or.inl d
   rename_i hm2;rw[if_neg hm2];have V:=d.1;have u:=d.2;simp at u;by_cases e:j=(D.all.length:Nat)
   ·exact Or.inr e
   exact Or.inl ⟨V,by omega⟩
  generalize zAb D.all n ((ds.getD n zAP).lo ::rest) (k0::ks)=o at*
  have hF:For ds a b o.2 x y o.1:=by
   refine⟨M.rng,λc W=> ?_,λh=> ?_⟩
   ·rw[hS c];have F:=zEr rest (c.getD n 0);rw[(L (nx rest (c.getD n 0)) (by simp only[List.length_cons];omega)).says c W];have Z:=W.2 n hn
    have e:((fAt ds (n:Int)).lo ::rest).getD (nx rest (c.getD n 0)) 0=zXM (fAt ds (n:Int)).lo rest (nx rest (c.getD n 0)):=by
     unfold zXM;split
     ·rename_i V;rw[V];rfl
     rename_i V;obtain⟨q,T⟩:∃q,nx rest (c.getD n 0)=q+1:=⟨nx rest (c.getD n 0)-1,by omega⟩;rw[T];simp
    have s1:=zE4 (v:=c.getD n 0) w (by rw[Q];exact Z.1);(have s2:=λx H=>zEv (v:=c.getD n 0) (x:=x) w H);rw[e];rw[zRH J H c (by omega) (λu N=>zPL s1 λz hz=>s2 z (ai u N z hz)),zRH K U c (by omega) (λu N=>zPL s1 λz hz=>s2 z (aj u N z hz))]
   have:=ae h;omega
  refine⟨⟨M.good,λp C=> ?_,λj d=> ?_⟩,hF⟩
  ·rcases zEw C with C|C
   ·exact(E.done p C).app E.good M.good M.pre
   subst C;exact hF
  rcases B j d with h|h
  ·obtain⟨p,C,e⟩:=E.from_ j h;exact⟨p,C,λc W=>by rw[M.S_old E.good h];exact e c W⟩
  subst h;exact⟨_,hxy,hF.says⟩
end both
def zFv(lo hi:Int):List Int->Bool
 |[]=>true
 |c::r=>decide (lo<c)&&decide (c<=hi)&&zFv c hi r
theorem zNW:∀{l:List Int}{lo hi:Int},zFv lo hi l=true↔zAE lo hi l
 |[],_,_=>by simp[zFv,zAE]
 |c::r,lo,hi=>by simp only[zFv,zAE,Bool.and_eq_true,decide_eq_true_eq,zNW,and_assoc]
def zEK(g:List zB)(f:Int):List Int->Bool
 |[]=>true
 |k::r=>(decide (0<=k)&&decide (k<g.length)&&(decide ((nAt g k).kids =[])||decide (f<(nAt g k).fact)))&&(match r with|[]=>true|k'::_=>decide (k≠k'))&&zEK g f r
def zAc(ds:List zE)(g:List zB)(n:zB):Bool:=
 if n.kids=[]then decide (n.fact=0)&&decide (n.cuts=[])
 else !n.leaf&&decide (0<=n.fact)&&decide (n.fact<ds.length)&&decide (n.cuts≠[])&&decide (n.kids.length=n.cuts.length+1)&&zFv (fAt ds n.fact).lo (fAt ds n.fact).hi n.cuts&&zEK g n.fact n.kids
theorem zMF{g:List zB}{f:Int}:∀{l:List Int},zEK g f l=true↔(∀k∈l,Rng g k)/\(∀k∈l,(nAt g k).kids ≠[]->f<(nAt g k).fact)/\∀j,j+1<l.length->l.getD j 0≠l.getD (j+1) 0
 |[]=>by simp[zEK]
 |k::r=>by
  have ih:=zMF (g:=g) (f:=f) (l:=r);unfold zEK;simp only[Bool.and_eq_true,decide_eq_true_eq,Bool.or_eq_true,ih];constructor
  ·rintro⟨⟨⟨⟨h0,h1⟩,b⟩,h3⟩,h4,h5,h6⟩;refine⟨λx a=> ?_,λx a c=> ?_,λj d=> ?_⟩
   ·rcases List.mem_cons.1 a with rfl|a
    ·exact⟨h0,h1⟩
    exact h4 x a
   ·rcases List.mem_cons.1 a with rfl|a
    ·rcases b with b|b
     ·exact absurd b c
     exact b
    exact h5 x a c
   cases j with
   |zero=>
    cases r with
    |nil=>simp at d
    |cons k' r=>simpa using h3
   |succ j=>simpa using h6 j (by simpa using d)
  rintro⟨h1,b,h3⟩;refine⟨⟨⟨⟨(h1 k (by simp)).1,(h1 k (by simp)).2⟩,?_⟩,?_⟩,λx a=>h1 x (by simp[a]),λx a=>b x (by simp[a]),λj d=> ?_⟩
  ·by_cases e:(nAt g k).kids =[]
   ·exact Or.inl e
   exact Or.inr (b k (by simp) e)
  ·cases r with
   |nil=>rfl
   |cons k' r=>have:=h3 0 (by simp);simpa using this
  have:=h3 (j+1) (by simpa using d);simpa using this
theorem zJc:zAc ds g n=true↔zFe ds g n:=by
 unfold zAc;by_cases h:n.kids=[]
 ·rw[if_pos h];simp only[Bool.and_eq_true,decide_eq_true_eq]
  exact⟨λe=>Or.inl ⟨h,e.1,e.2⟩,λe=>by
   rcases e with e|e
   ·exact e.2
   exact absurd h e.ne⟩
 rw[if_neg h];simp only[Bool.and_eq_true,decide_eq_true_eq,Bool.not_eq_true',zNW,zMF];constructor
 ·rintro⟨⟨⟨⟨⟨⟨h1,h2⟩,h3⟩,h4⟩,h5⟩,h6⟩,h7,h8,h9⟩;exact Or.inr ⟨h,h1,h2,h3,h4,h5,h6,h7,h8,h9⟩
 rintro(e|e)
 ·exact absurd e.1 h
 exact⟨⟨⟨⟨⟨⟨e.leaf,e.f0⟩,e.f1⟩,e.cuts⟩,e.len⟩,e.asc⟩,e.rng,e.up,e.diff⟩
def zBo(ds:List zE)(g:List zB):Bool:=
 zT ds&&decide (g≠[])&&decide (g.length<=4000)&&g.all (zAc ds g)&&decide g.Nodup&&decide (zAr ds g 0=g)
structure zBP (ds:List zE) (g:List zB):Prop where
 dom:zT ds=true
 ne:g≠[]
 len:g.length<=4000
 good:Good ds g
 canon:zAr ds g 0=g
theorem zD0:zBo ds g=true↔zBP ds g:=by
 unfold zBo;simp only[Bool.and_eq_true,decide_eq_true_eq,List.all_eq_true,zJc];constructor
 ·rintro⟨⟨⟨⟨⟨h1,h2⟩,h3⟩,h4⟩,h5⟩,h6⟩;exact⟨h1,h2,h3,⟨h4,h5⟩,h6⟩
 rintro⟨h1,h2,h3,⟨h4,h5⟩,h6⟩;exact⟨⟨⟨⟨⟨h1,h2⟩,h3⟩,h4⟩,h5⟩,h6⟩
theorem zGU(h:zT ds=true):zDt ds:=λj a=>by
 unfold zT at h;simp only[Bool.and_eq_true,List.all_eq_true]at h;have:=h.1.1 (ds.getD j zAP) (by rw[List.getD_eq_getElem?_getD,List.getElem?_eq_getElem a];exact List.getElem_mem a);unfold zCY at this;simp only[Bool.and_eq_true,Bool.or_eq_true,beq_iff_eq,decide_eq_true_eq]at this;omega
theorem zBP.rng(h:zBP ds g):Rng g 0:=⟨Int.le_refl _,by have:=List.length_pos_iff.2 h.ne;omega⟩
theorem zJd(b:zT ds=true)(h:Good ds g)(hi:Rng g i)(a:(zAr ds g i).length <=4000):zBP ds (zAr ds g i):=
 ⟨b,by intro e;have:=(zMA h hi).2;rw[e]at this;simp at this,a,zK4 h hi,zOY (zGU b) h hi⟩
def nxL(n:zB)(v:Int):Int:=if nx n.cuts v<n.cuts.length then(nx n.cuts v:Nat)else(n.kids.length:Int)-1
theorem zDm.nxL(h:zDm ds g n)(v:Int):nxL n v=(nx n.cuts v:Nat):=by
 unfold Go.Proofs.YtommaegelgilnaaGreatDoor.nxL;have:=zEr n.cuts v;have:=h.len;split<;>omega
theorem zMG{α:Type}{p q:α->Bool}(b:∀x,p x=true->q x=true):∀{l:List α}{x:α},x∈l->q x=true->p x=false->l.countP p+1<=l.countP q
 |a::l,x,c,hq,hp=>by
  rw[List.countP_cons,List.countP_cons];have d:l.countP p<=l.countP q:=List.countP_mono_left λx _ h=>b x h
  rcases List.mem_cons.1 c with rfl|c
  ·rw[hq,hp];simp;omega
  have:=zMG b c hq hp;by_cases h:p a=true
  ·rw[h,b a h];simp;omega
  rw[if_neg h];omega
section holds
variable {ds:List zE} {g:List zB}
def zTU(ds:List zE)(n:zB):Nat:=if n.kids=[]then 0 else ds.length-n.fact.toNat
def cnt(ds:List zE)(g:List zB)(r:Nat):Nat:=g.countP λn=>decide (zTU ds n<=r)
theorem cnt_lt{i k:Int}(hi:Rng g i)(h:zCS ds g k<zCS ds g i):cnt ds g (zCS ds g k)+1<=cnt ds g (zCS ds g i):=
 zMG (λn a=>by simp only[decide_eq_true_eq]at a⊢;omega) (zEj hi) (by simp[zCS,zTU]) (by simp only[decide_eq_false_iff_not,Nat.not_le];exact h)
def live(g:List zB)(k:Int):Bool:=decide ((nAt g k).kids ≠[])||(nAt g k).leaf
def zCU(g:List zB):Nat->Int->List Int->Int × List Int
 |0,i,c=>(i,c)
 |k+1,i,c=>
 if(nAt g i).kids =[]then(i,c)
 else zCU g k ((nAt g i).kids.getD ((nAt g i).kids.findIdx (live g)) 0)
  (if 0<(nAt g i).kids.findIdx (live g)then c.set (nAt g i).fact.toNat ((nAt g i).cuts.getD ((nAt g i).kids.findIdx (live g)-1) 0)else c)
def zDS(ds:List zE)(g:List zB):Option (List Int):=
 if zBo ds g=true then(if(nAt g (zCU g (ds.length+1) 0 (zCG ds)).1).leaf =true then some (zCU g (ds.length+1) 0 (zCG ds)).2 else none)else none
theorem Good.some_live(o:zDt ds)(h:Good ds g)(hi:Rng g i)(c:(nAt g i).kids ≠[]):(nAt g i).kids.findIdx (live g)<(nAt g i).kids.length :=by
 have I:=h.inner hi c;refine List.findIdx_lt_length_of_exists ?_;have j:=I.len;have s:1<=(nAt g i).cuts.length :=by have:=I.cuts;cases q:(nAt g i).cuts with|nil=>exact absurd q this|cons=>simp
 have d:(nAt g i).kids.getD 0 0∈(nAt g i).kids :=zBa (by omega);have f:(nAt g i).kids.getD 1 0∈(nAt g i).kids :=zBa (by omega);by_cases m:live g ((nAt g i).kids.getD 0 0)=true
 ·exact⟨_,d,m⟩
 by_cases n:live g ((nAt g i).kids.getD 1 0)=true
 ·exact⟨_,f,n⟩
 exfalso;have t:=I.diff 0 (by omega)
 have a:∀k,Rng g k->¬live g k=true->nAt g k=zB9:=λk c b=>by
  unfold live at b;simp only[Bool.or_eq_true,decide_eq_true_eq,not_or,Decidable.not_not]at b;rcases h.proper _ (zEj c)with e|e
  ·exact zB.ext' (by rw[show zB9.leaf=false from rfl];simpa using b.2) e.2.1 e.2.2 e.1
  exact absurd b.1 e.ne
 exact t (zKD h.nodup (I.rng _ d) (I.rng _ f) (by rw[a _ (I.rng _ d) m,a _ (I.rng _ f) n]))
def zPd(a b:List Int):Prop:=∃j,j<a.length/\j<b.length/\(∀i,i<j->a.getD i 0=b.getD i 0)/\a.getD j 0<b.getD j 0
theorem zRI(h:Good ds g)(a:live g i=false)(c:List Int):S ds g i c=false:=by
 unfold live at a;simp only[Bool.or_eq_false_iff,decide_eq_false_iff_not,Decidable.not_not]at a;rw[h.S_leaf a.1];exact a.2
theorem zHN(V:zDt ds)(h:Good ds g):∀(k:Nat)(i:Int)(c:List Int)(lo:Nat),Rng g i->zCS ds g i<k->live g i=true->Fit ds c->((nAt g i).kids ≠[]->(lo:Int)<=(nAt g i).fact)->
  (∀j,lo<=j->j<ds.length->c.getD j 0=(ds.getD j zAP).lo)->
  (nAt g (zCU g k i c).1).leaf =true/\Fit ds (zCU g k i c).2/\S ds g i (zCU g k i c).2=true/\(∀j,j<lo->(zCU g k i c).2.getD j 0=c.getD j 0)/\
  ((nAt g i).kids ≠[]->∀j:Nat,(j:Int)<(nAt g i).fact ->(zCU g k i c).2.getD j 0=c.getD j 0)/\
  ∀m,Fit ds m->(∀j,j<lo->m.getD j 0=c.getD j 0)->S ds g i m=true->¬zPd m (zCU g k i c).2
 |0,_,_,_,_,hr,_,_,_,_=>by omega
 |k+1,i,c,lo,n,hr,hlv,hc,hlo,hcl=>by
  unfold zCU;by_cases o:(nAt g i).kids =[]
  ·rw[if_pos o];(have E:(nAt g i).leaf =true:=by unfold live at hlv;simpa[o]using hlv);refine⟨E,hc,by rw[h.S_leaf o];exact E,λj _=>rfl,λj f=>absurd o j,λm hc' hag hs ⟨j,h1,h2,h3,h4⟩=> ?_⟩;rcases Nat.lt_or_ge j lo with f|f
   ·have:=hag j f;simp only at h4;omega
   (have d:j<ds.length:=by rw[hc'.1]at h1;exact h1);have:=(hc'.2 j d).1;have:=hcl j f d;simp only at h4;omega
  rw[if_neg o];have I:=h.inner n o;have ab:=hlo o;have f0:=I.f0;have f1:=I.f1;have C:=h.some_live V n o;have t:(nAt g i).fact.toNat <ds.length:=by omega
  have D:=zBa C
  have U:live g ((nAt g i).kids.getD ((nAt g i).kids.findIdx (live g)) 0)=true:=by
   rw[List.getD_eq_getElem?_getD,List.getElem?_eq_getElem C];exact List.findIdx_getElem
  have s:∀j,j<(nAt g i).kids.findIdx (live g)->live g ((nAt g i).kids.getD j 0)=false:=λj f=>by
   (have z:j<(nAt g i).kids.length :=by omega);rw[List.getD_eq_getElem?_getD,List.getElem?_eq_getElem z];have:=List.not_of_lt_findIdx f;simpa using this
  have aa:=I.len;generalize hx:(nAt g i).kids.findIdx (live g)=x at*;have W:=h.rank_kid n D
  have K:(if 0<x then c.set (nAt g i).fact.toNat ((nAt g i).cuts.getD (x-1) 0)else c)=c.set (nAt g i).fact.toNat (zXM (fAt ds (nAt g i).fact).lo (nAt g i).cuts x):=by
   unfold zXM;by_cases h0:x=0
   ·rw[if_neg (by omega),if_pos h0];have e:=hcl (nAt g i).fact.toNat (by omega) t;(have F:(nAt g i).fact.toNat <c.length:=by rw[hc.1];exact t);apply zFt (by simp);intro j f;rw[zDu];split
    ·rename_i hh;rw[<-hh.1,e];rfl
    rfl
   rw[if_pos (by omega),if_neg h0]
  rw[K];have L:=h.start_fit V n o (j:=x) (by omega);have R:=hc.set_ (j:=(nAt g i).fact.toNat) L.1 L.2;have X:=I.up _ D;generalize J:zXM (fAt ds (nAt g i).fact).lo (nAt g i).cuts x=q at*;have H:nx (nAt g i).cuts q=x:=by rw[<-J];exact zFT I.asc (by omega)
  have w:(nAt g i).fact.toNat <c.length:=by rw[hc.1];exact t
  obtain⟨a1,a2,a3,N,a5,a6⟩:=zHN V h k ((nAt g i).kids.getD x 0) (c.set (nAt g i).fact.toNat q) ((nAt g i).fact.toNat +1) W.1 (by omega) U R (λT=>by have:=X T;omega) (λj f d=>by
   rw[zDu,if_neg (by omega)]
   exact hcl j (by omega) d)
  generalize zCU g k ((nAt g i).kids.getD x 0) (c.set (nAt g i).fact.toNat q)=r at*
  have B:r.2.getD (nAt g i).fact.toNat 0=q:=by
   rw[N _ (by omega),zDu,if_pos ⟨rfl,w⟩]
  have u:∀j,j<(nAt g i).fact.toNat ->r.2.getD j 0=c.getD j 0:=λj f=>by
   rw[N j (by omega),zDu,if_neg (by omega)]
  refine⟨a1,a2,?_,λj f=>u j (by omega),λ_ j f=>u j (by omega),λm hc' hag hs ⟨j,h1,h2,h3,h4⟩=> ?_⟩
  ·rw[h.S_inner n o,B,H];exact a3
  have d:j<ds.length:=by rw[hc'.1]at h1;exact h1
  rcases Nat.lt_trichotomy j (nAt g i).fact.toNat with f|f|f
  ·have e:=u j f;rcases Nat.lt_or_ge j lo with A|A
   ·have:=hag j A;omega
   have:=(hc'.2 j d).1;have:=hcl j A d;omega
  ·subst f;rw[B]at h4;rw[h.S_inner n o]at hs
   have F:nx (nAt g i).cuts (m.getD (nAt g i).fact.toNat 0)<x:=by
    rcases Nat.lt_or_ge (nx (nAt g i).cuts (m.getD (nAt g i).fact.toNat 0)) x with O|O
    ·exact O
    exfalso
    have Y:x≠0:=λe=>by
     have:=(hc'.2 _ d).1;rw[e]at J;unfold zXM fAt at J;simp only[if_true]at J;omega
    have G:q∈(nAt g i).cuts :=by
     rw[<-J];unfold zXM;rw[if_neg Y];exact zBa (by omega)
    have s1:=zEv (v:=m.getD (nAt g i).fact.toNat 0) I.asc G;have s2:=zE4 (v:=m.getD (nAt g i).fact.toNat 0) I.asc (hc'.2 _ d).1;have s3:zXM (fAt ds (nAt g i).fact).lo (nAt g i).cuts (nx (nAt g i).cuts (m.getD (nAt g i).fact.toNat 0))<q:=by omega
    have M:∀(l:List Int)(lo n:Int)(a b:Nat),zAE lo n l->a<=b->b<=l.length->zXM lo l a<=zXM lo l b:=by
     intro l
     induction l with
     |nil=>
      intro lo n a b _ P Q;simp at Q;(have:a=b:=by omega);subst this;exact Int.le_refl _
     |cons y l ih=>
     intro lo n a b ha P Q
     cases a with
     |zero=>
      unfold zXM;rw[if_pos rfl];split
      ·exact Int.le_refl _
      exact Int.le_of_lt (zBZ ha _ (zBa (by omega))).1
     |succ a=>
     obtain⟨b,rfl⟩:∃b',b=b'+1:=⟨b-1,by omega⟩
     have e:∀j,zXM lo (y::l) (j+1)=zXM y l j:=λj=>by
      unfold zXM
      cases j with
      |zero=>simp
      |succ j=>simp
     rw[e,e];exact ih y n a b ha.2.2 (by omega) (by simpa using Q)
    have:=M _ _ _ x _ I.asc O (zEr _ _);omega
   rw[zRI h (s _ F)]at hs;exact absurd hs (by simp)
  have Z:=h3 _ f;rw[B]at Z;rw[h.S_inner n o,Z,H]at hs;refine a6 m hc' (λj' z=> ?_) hs ⟨j,h1,h2,h3,h4⟩;rw[h3 j' (by omega),N j' z]
theorem zJe{ds:List zE}(a:zT ds=true)(j:Nat)(b:j<ds.length):(zCG ds).getD j 0=(ds.getD j zAP).lo :=by
 rw[zDk a];simp[List.getD_eq_getElem?_getD,List.getElem?_eq_getElem b]
theorem zO4{p:List Int}(h:zDS ds g=some p):zBP ds g/\Fit ds p/\S ds g 0 p=true/\∀c,Fit ds c->S ds g 0 c=true->¬zPd c p:=by
 unfold zDS at h;by_cases d:zBo ds g=true
 ·rw[if_pos d]at h;have V:=zD0.1 d;have e:=zGU V.dom;have o:Fit ds (zCG ds):=by rw[zDk V.dom];exact e.least
  by_cases a:live g 0=true
  ·obtain⟨f,i,k,_,_,m⟩:=zHN e V.good (ds.length+1) 0 (zCG ds) 0 V.rng (by have:=zDh (ds:=ds) (g:=g) 0;omega) a o (λq=>(V.good.inner V.rng q).f0) (λj _ b=>zJe V.dom j b);rw[if_pos f]at h;injection h with h;subst h;exact⟨V,i,k,λc n s=>m c n (λj b=>absurd b (by omega)) s⟩
  exfalso;unfold live at a;simp only[Bool.or_eq_true,decide_eq_true_eq,not_or,Decidable.not_not]at a;unfold zCU at h;rw[if_pos a.1,if_neg a.2]at h;cases h
 rw[if_neg d]at h;cases h
theorem zO5(a:zBP ds g)(h:zDS ds g=none):(∀c,S ds g 0 c=false)/\live g 0=false:=by
 unfold zDS at h;rw[if_pos (zD0.2 a)]at h;have e:=zGU a.dom;have i:Fit ds (zCG ds):=by rw[zDk a.dom];exact e.least
 by_cases d:live g 0=true
 ·exfalso;obtain⟨f,_⟩:=zHN e a.good (ds.length+1) 0 (zCG ds) 0 a.rng (by have:=zDh (ds:=ds) (g:=g) 0;omega) d i (λm=>(a.good.inner a.rng m).f0) (λj _ k=>zJe a.dom j k);rw[if_pos f]at h;cases h
 have b:live g 0=false:=by simpa using d
 exact⟨λc=>zRI a.good b c,b⟩
end holds
def zCz(n:zB):zB:=if n.kids=[]then⟨!n.leaf,n.fact,n.cuts,n.kids⟩else n
def zXP(g:List zB):List zB:=g.map zCz
theorem zEl(n:zB):(zCz n).kids =n.kids/\(zCz n).cuts =n.cuts/\(zCz n).fact =n.fact:=by unfold zCz;split<;>simp
theorem zMH(n:zB):zCz (zCz n)=n:=by
 unfold zCz;by_cases h:n.kids=[]
 ·simp only[if_pos h,Bool.not_not]
 simp only[if_neg h]
section not_
variable {ds:List zE} {g:List zB}
theorem zNX:Rng (zXP g) i↔Rng g i:=by unfold Rng zXP;rw[List.length_map]
theorem zL8(h:Rng g i):nAt (zXP g) i=zCz (nAt g i):=by
 obtain⟨n,rfl⟩:=Int.eq_ofNat_of_zero_le h.1;have a:n<g.length:=by have:=h.2;omega
 rw[zCB a,zCB (by unfold zXP;simpa using a)];unfold zXP;rw[List.getElem_map]
theorem zIh(h:Good ds g):Good ds (zXP g):=by
 constructor
 ·intro n f;obtain⟨m,d,rfl⟩:=List.mem_map.1 f;obtain⟨i,j,o⟩:=zEl m;rcases h.proper m d with e|I
  ·exact Or.inl ⟨by rw[i];exact e.1,by rw[o];exact e.2.1,by rw[j];exact e.2.2⟩
  have e:zCz m=m:=by unfold zCz;rw[if_neg I.ne]
  rw[e];refine Or.inr ⟨I.ne,I.leaf,I.f0,I.f1,I.cuts,I.len,I.asc,λk c=>zNX.2 (I.rng k c),λk c=> ?_,I.diff⟩;rw[zL8 (I.rng k c),(zEl _).1,(zEl _).2.2];exact I.up k c
 show List.Pairwise (· ≠ ·) _;unfold zXP;rw[List.pairwise_map];refine List.Pairwise.imp (λ{a b} hne e=>hne ?_) h.nodup;rw[<-zMH a,e,zMH]
theorem zRJ(h:Good ds g):∀(r:Nat)(i:Int),Rng g i->zCS ds g i<=r->∀c,S ds (zXP g) i c= !S ds g i c
 |r,i,hi,hr,c=>by
  have a:=zL8 hi;by_cases b:(nAt g i).kids =[]
  ·rw[h.S_leaf b,(zIh h).S_leaf (by rw[a,(zEl _).1];exact b),a];unfold zCz;rw[if_pos b]
  have I:=h.inner hi b;have f:=I.kid_rng (c.getD (nAt g i).fact.toNat 0);have d:=h.rank_kid hi f;have e:zCz (nAt g i)=nAt g i:=by unfold zCz;rw[if_neg b]
  rw[h.S_inner hi b,(zIh h).S_inner (zNX.2 hi) (by rw[a,e];exact b),a,e]
  cases r with
  |zero=>omega
  |succ r=>exact zRJ h r _ d.1 (by omega) c
theorem zKd:∀(k:Nat)(i:Int)(o:List Int),(∀j,(nAt (zXP g) j).kids =(nAt g j).kids)->zAI (zXP g) k i o=zAI g k i o
 |0,_,_,_=>rfl
 |k+1,i,o,h=>by
  unfold zAI;rw[h i];have:(λ(o:List Int)(x:Int)=>zAI (zXP g) k x o)=λo x=>zAI g k x o:=funext λo=>funext λx=>zKd k x o h
  rw[this]
theorem zRK(j:Int):(nAt (zXP g) j).kids =(nAt g j).kids :=by
 unfold nAt zXP;rw[List.getD_eq_getElem?_getD,List.getD_eq_getElem?_getD,List.getElem?_map]
 cases g[j.toNat]? with
 |none=>rfl
 |some n=>exact(zEl n).1
theorem zPe(h:zBP ds g):zBP ds (zXP g):=by
 refine⟨h.dom,by unfold zXP;simp[h.ne],by unfold zXP;simpa using h.len,zIh h.good,?_⟩;have c:zBm ds (zXP g) 0=zBm ds g 0:=zKd _ _ _ zRK;have d:=zEI h.good h.rng;have b:=h.canon;unfold zAr at b⊢;rw[c]
 have:(zBm ds g 0).map (zBF (zXP g) (zBm ds g 0))=((zBm ds g 0).map (zBF g (zBm ds g 0))).map zCz:=by
  rw[List.map_map];refine List.map_congr_left λx f=> ?_
  have a:=zL8 (d.rng x f);obtain⟨i,j,k⟩:=zEl (nAt g x);simp only[Function.comp];unfold zBF;rw[a,i,j,k];unfold zCz;by_cases e:(nAt g x).kids =[]
  ·simp[e]
  simp[e]
 rw[this,b];rfl
end not_
section pair
variable {P:Program} {k e:TypeId}
theorem zL9(j:P.underlying k=some (.array 2 e))(he:P.underlying e=some (.int .i64)){i:TypeInfo}(hi:P.info? e=some i)(h:P.cellsOf e=1)(w:World)(x y:Int × Int):
  (Op.equal k (zE2 x) (zE2 y)).run P w= .ok (decide (x=y)) w:=by
 have f:P.plainKey e=true:=by simp[Program.plainKey,he]
 have g:∀(d:Nat)(a b:Int),(Op.equalIn (d+1) e (.int .i64 a) (.int .i64 b)).run P w= .ok (a==b) w:=λd a b=>by
  simp[Op.equalIn,run_underlying he]
 have c:∀(a b:Int),(Op.equalIn 9999 e (.int .i64 a) (.int .i64 b)).run P w= .ok (a==b) w:=g 9998;have m:∀(a b:Int),(part e #[.int .i64 a,.int .i64 b] 0).run P w= .ok (.int .i64 a) w:=λa b=>run_part_plain w f rfl
 have n:∀(a b:Int),(part e #[.int .i64 a,.int .i64 b] 1).run P w= .ok (.int .i64 b) w:=λa b=>run_part_plain w f rfl
 unfold Op.equal zE2;rw[show Op.maxDepth=9999+1 from rfl,run_equalIn_array w 9999 _ _ j hi,h,show List.range 2=[0,1] from rfl];simp only[Op.eqItems,Sem.run_bind,Nat.zero_mul,Nat.one_mul,m,Result.andThen_ok,c];by_cases a:x.1=y.1<;>by_cases b:x.2=y.2<;>simp[a,b,Prod.ext_iff,n,c]
theorem zPf(f:P.underlying k=some (.array 2 e))(he:P.underlying e=some (.int .i64)){i:TypeInfo}(hi:P.info? e=some i)(u:P.cellsOf e=1)
  (c:∀(w:World)(m:Bool)(x:Int × Int),(Instr.checkKey m 10000 k (zE2 x)).run P w= .ok () w):zFP P k zE2 where
 check:=c
 find w x b a h:=by
  have d:∀(b:List MapEntry)(a:List ((Int × Int) × Value))(j:Nat),b.map (λe=>(e.key,e.val))=a.map (λp=>(zE2 p.1,p.2))->(Instr.findAsking k (zE2 x) b j).run P w= .ok (zBu a x j) w:=by
   intro b
   induction b with
   |nil=>intro a j h;cases a with
    |nil=>simp[Instr.findAsking,zBu]
    |cons p a=>simp at h
   |cons e' b ih=>intro a j h;cases a with
    |nil=>simp at h
    |cons p a=>
    simp only[List.map_cons,List.cons.injEq,Prod.mk.injEq]at h;obtain⟨⟨o,q⟩,s⟩:=h;have t:=zL9 f he hi u w x p.1;unfold Instr.findAsking zBu;rw[o];simp only[Sem.run_bind,t,Result.andThen_ok];by_cases g:x=p.1
    ·simp[g,q]
    simp[g,ih a (j+1) s]
  cases b with
  |nil=>
   cases a with
   |nil=>simp[Instr.findKey,run_underlying f,Instr.findNow,zBu]
   |cons p a=>simp at h
  |cons e' b=>
  have n:=h
  cases a with
  |nil=>simp at h
  |cons p a=>
  simp only[List.map_cons,List.cons.injEq,Prod.mk.injEq]at h
  have v:Instr.findNow (.array 2 e) (zE2 x) (e'::b) 0=none:=by
   unfold Instr.findNow;rw[h.1.1];simp[Instr.sameNow]
  simp only[Instr.findKey,Sem.run_bind,run_underlying f,Result.andThen_ok,v];exact d _ _ 0 n
 stays w x:=by simp[Instr.keyThatStays,zE2,Instr.sameBits]
end pair
def kvA(d:List ((Int × Int) × Int)):List ((Int × Int) × Value):=d.map λp=>(p.1,.int .i64 p.2)
theorem zPM:∀(d:List ((Int × Int) × Int))(k:Int × Int),zAA (kvA d) k=(kvI d k).map (.int .i64)
 |[],_=>rfl
 |p::r,k=>by
  have ih:=zPM r k;unfold kvA at ih⊢;rw[List.map_cons,zAA,kvI];split
  ·rfl
  exact ih
theorem zPN:∀(d:List ((Int × Int) × Int))(k:Int × Int)(v:Int),zAq (kvA d) k (.int .i64 v)=kvA (zCd d k v)
 |[],_,_=>rfl
 |p::r,k,v=>by
  have ih:=zPN r k v;unfold kvA at ih⊢;rw[List.map_cons,zAq,zCd];split
  ·rfl
  rw[List.map_cons,<-ih]
end Go.Proofs.YtommaegelgilnaaGreatDoor
