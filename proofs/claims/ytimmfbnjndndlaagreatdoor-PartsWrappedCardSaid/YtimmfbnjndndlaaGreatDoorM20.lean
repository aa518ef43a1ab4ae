/- Texts C CV CM CA MP. -/
import Derived.Test.YtimmfbnjndndlaaGreatDoorM7
import Derived.Test.YtimmfbnjndndlaaGreatDoorM9
import Derived.ChangeKeysEq
import Derived.DeepKeys3
set_option linter.all false
namespace Go.Proofs.YtimmfbnjndndlaaGreatDoor
open Go.RowKit
def noNode:NodeD:=⟨false,0,[],[]⟩
def nAt(g:List NodeD)(i:Int):NodeD:=g.getD i.toNat noNode
def Rng(g:List NodeD)(i:Int):Prop:=0≤i∧i<g.length
def noFact:FactD:=⟨⟨#[]⟩,0,0,0⟩
def fAt(ds:List FactD)(i:Int):FactD:=ds.getD i.toNat noFact
def ascFrom(lo hi:Int):List Int->Prop
 |[]=>True
 |c::r=>lo<c∧c≤hi∧ascFrom c hi r
structure Inner (ds:List FactD) (g:List NodeD) (n:NodeD):Prop where
 ne:n.kids≠[]
 leaf:n.leaf=false
 f0:0≤n.fact
 f1:n.fact<ds.length
 cuts:n.cuts≠[]
 len:n.kids.length=n.cuts.length+1
 asc:ascFrom (fAt ds n.fact).lo (fAt ds n.fact).hi n.cuts
 rng:∀k∈n.kids,Rng g k
 up:∀k∈n.kids,(nAt g k).kids ≠[]->n.fact<(nAt g k).fact
 diff:∀j,j+1<n.kids.length->n.kids.getD j 0≠n.kids.getD (j+1) 0
def LeafN(n:NodeD):Prop:=n.kids=[]∧n.fact=0∧n.cuts=[]
def Proper(ds:List FactD)(g:List NodeD)(n:NodeD):Prop:=LeafN n∨Inner ds g n
structure Good (ds:List FactD) (g:List NodeD):Prop where
 proper:∀n∈g,Proper ds g n
 nodup:g.Nodup
theorem nAt_mem{g:List NodeD}{i:Int}(h:Rng g i):nAt g i∈g:=by
 obtain⟨h0,h1⟩:=h;have:i.toNat<g.length:=by omega
 unfold nAt;rw[List.getD_eq_getElem?_getD,List.getElem?_eq_getElem this];exact List.getElem_mem this
theorem nAt_nat{g:List NodeD}{i:Nat}(h:i<g.length):nAt g i=g[i]:=by
 unfold nAt;rw[List.getD_eq_getElem?_getD,Int.toNat_natCast,List.getElem?_eq_getElem h];rfl
theorem nodup_at{g:List NodeD}(h:g.Nodup){i j:Int}(hi:Rng g i)(hj:Rng g j)(e:nAt g i=nAt g j):i=j:=by
 obtain⟨a,rfl⟩:=Int.eq_ofNat_of_zero_le hi.1;obtain⟨b,rfl⟩:=Int.eq_ofNat_of_zero_le hj.1;have ha:a<g.length:=by have:=hi.2;omega
 have hb:b<g.length:=by have:=hj.2;omega
 rw[nAt_nat ha,nAt_nat hb]at e;have:=(List.getElem_inj h).1 e;rw[this]
def nx:List Int->Int->Nat
 |[],_=>0
 |c::r,v=>if v<c then 0 else nx r v+1
theorem nx_le(l:List Int)(v:Int):nx l v≤l.length:=by
 induction l with
 |nil=>exact Nat.le_refl _
 |cons c r ih=>unfold nx;split<;>simp<;>omega
theorem nx_low{lo hi:Int}{l:List Int}(h:ascFrom lo hi l){v:Int}(hv:v≤lo):nx l v=0:=by
 cases l with
 |nil=>rfl
 |cons c r=>unfold nx;rw[if_pos (by have:=h.1;omega)]
theorem asc_mono{lo lo' hi:Int}{l:List Int}(h:ascFrom lo hi l)(hl:lo'≤lo):ascFrom lo' hi l:=by
 cases l with
 |nil=>trivial
 |cons c r=>exact⟨by have:=h.1;omega,h.2.1,h.2.2⟩
theorem asc_mem{lo hi:Int}:∀{l:List Int},ascFrom lo hi l->∀c∈l,lo<c∧c≤hi
 |[],_,_,h=>absurd h (by simp)
 |c::r,h,x,hx=>by
  rcases List.mem_cons.1 hx with rfl|hx
  ·exact⟨h.1,h.2.1⟩
  ·have:=asc_mem (asc_mono h.2.2 (Int.le_of_lt h.1)) x hx;exact this
theorem nx_mem:∀{lo hi:Int}{l:List Int}{v:Int},ascFrom lo hi l->v∈l->nx l v=nx l (v-1)+1
 | _,_,[],_,_,h=>absurd h (by simp)
 |lo,hi,c::r,v,ha,h=>by
  unfold nx;rcases List.mem_cons.1 h with rfl|h
  ·rw[if_neg (by omega),if_pos (by omega),nx_low ha.2.2 (Int.le_refl _)]
  ·have hc:=(asc_mem ha.2.2 v h).1;rw[if_neg (by omega),if_neg (by omega),nx_mem ha.2.2 h]
theorem nx_not{l:List Int}{v:Int}(h:v∉l):nx l v=nx l (v-1):=by
 induction l with
 |nil=>rfl
 |cons c r ih=>
  simp only[List.mem_cons,not_or]at h;unfold nx;by_cases h1:v<c
  ·rw[if_pos h1,if_pos (by omega)]
  ·rw[if_neg h1,if_neg (by omega),ih h.2]
theorem asc_ext:∀{lo hi:Int}{l m:List Int},ascFrom lo hi l->ascFrom lo hi m->(∀v,v∈l↔v∈m)->l=m
 | _,_,[],[],_,_,_=>rfl
 | _,_,[],c::r,_,_,h=>absurd ((h c).2 (by simp)) (by simp)
 | _,_,c::r,[],_,_,h=>absurd ((h c).1 (by simp)) (by simp)
 |lo,hi,c::r,d::s,h1,h2,h=>by
  have e:c=d:=by
   rcases List.mem_cons.1 ((h c).1 (by simp))with e|e
   ·exact e
   ·rcases List.mem_cons.1 ((h d).2 (by simp))with e'|e'
    ·exact e'.symm
    ·have a:=(asc_mem h1.2.2 d e').1;have b:=(asc_mem h2.2.2 c e).1;omega
  subst e;rw[asc_ext h1.2.2 h2.2.2 (λv=> ?_)];constructor
  ·intro hv;have:=(asc_mem h1.2.2 v hv).1;rcases List.mem_cons.1 ((h v).1 (List.mem_cons_of_mem _ hv))with e|e
   ·omega
   ·exact e
  ·intro hv;have:=(asc_mem h2.2.2 v hv).1;rcases List.mem_cons.1 ((h v).2 (List.mem_cons_of_mem _ hv))with e|e
   ·omega
   ·exact e
def startAt(lo:Int)(l:List Int)(j:Nat):Int:=if j=0 then lo else l.getD (j-1) 0
theorem nx_start{hi:Int}:∀{lo:Int}{l:List Int}{j:Nat},ascFrom lo hi l->j≤l.length->nx l (startAt lo l j)=j
 |lo,l,0,h,_=>by simp[startAt,nx_low h (Int.le_refl _)]
 |lo,[],j+1,h,hj=>by simp at hj
 |lo,c::r,j+1,h,hj=>by
  have hj':j≤r.length:=by simpa using hj
  have:=nx_start h.2.2 hj'
  have hc:c≤startAt c r j:=by
   unfold startAt;split
   ·exact Int.le_refl _
   ·(have hlt:j-1<r.length:=by omega);rw[List.getD_eq_getElem?_getD,List.getElem?_eq_getElem hlt];have:=(asc_mem h.2.2 _ (List.getElem_mem hlt)).1;exact Int.le_of_lt this
  have e:startAt lo (c::r) (j+1)=startAt c r j:=by
   unfold startAt
   cases j with
   |zero=>simp
   |succ j=>simp
  rw[e];unfold nx;rw[if_neg (by omega),this]
theorem start_rng{lo hi:Int}{l:List Int}{j:Nat}(h:ascFrom lo hi l)(hl:lo≤hi)(hj:j≤l.length):lo≤startAt lo l j∧startAt lo l j≤hi:=by
 unfold startAt;split
 ·exact⟨Int.le_refl _,hl⟩
 ·have hlt:j-1<l.length:=by omega
  rw[List.getD_eq_getElem?_getD,List.getElem?_eq_getElem hlt];have:=asc_mem h _ (List.getElem_mem hlt);exact⟨Int.le_of_lt this.1,this.2⟩
def sem(g:List NodeD):Nat->Int->List Int->Bool
 |0,_,_=>false
 |k+1,i,c=>if(nAt g i).kids =[]then(nAt g i).leaf else sem g k ((nAt g i).kids.getD (nx (nAt g i).cuts (c.getD (nAt g i).fact.toNat 0)) 0) c
def rank(ds:List FactD)(g:List NodeD)(i:Int):Nat:=if(nAt g i).kids =[]then 0 else ds.length-(nAt g i).fact.toNat
def S(ds:List FactD)(g:List NodeD)(i:Int)(c:List Int):Bool:=sem g (ds.length+1) i c
section good
variable {ds:List FactD} {g:List NodeD}
theorem Good.inner(h:Good ds g){i:Int}(hi:Rng g i)(hk:(nAt g i).kids ≠[]):Inner ds g (nAt g i):=by
 rcases h.proper _ (nAt_mem hi)with h|h
 ·exact absurd h.1 hk
 ·exact h
theorem Inner.kid_rng{n:NodeD}(h:Inner ds g n)(v:Int):n.kids.getD (nx n.cuts v) 0∈n.kids:=by
 have h1:=nx_le n.cuts v;have h2:=h.len;have hlt:nx n.cuts v<n.kids.length:=by omega
 rw[List.getD_eq_getElem?_getD,List.getElem?_eq_getElem hlt];exact List.getElem_mem hlt
theorem rank_le(i:Int):rank ds g i≤ds.length:=by unfold rank;split<;>omega
theorem Good.rank_kid(h:Good ds g){i:Int}(hi:Rng g i){k:Int}(hk:k∈(nAt g i).kids):Rng g k∧rank ds g k<rank ds g i:=by
 have hne:(nAt g i).kids ≠[]:=by intro e;rw[e]at hk;simp at hk
 have I:=h.inner hi hne;refine⟨I.rng k hk,?_⟩;have u:=I.up k hk;have f0:=I.f0;have f1:=I.f1;unfold rank;rw[if_neg hne];split
 ·omega
 ·rename_i hkk;have:=u hkk;have I2:=h.inner (I.rng k hk) hkk;have:=I2.f1;omega
theorem Good.sem_fuel(h:Good ds g):∀(k k':Nat)(i:Int)(c:List Int),Rng g i->rank ds g i<k->rank ds g i<k'->sem g k i c=sem g k' i c
 |0,_,_,_,_,h1,_=>by omega
 | _+1,0,_,_,_,_,h2=>by omega
 |k+1,k'+1,i,c,hi,h1,h2=>by
  unfold sem;split
  ·rfl
  ·rename_i hne;have hm:=(h.inner hi hne).kid_rng (c.getD (nAt g i).fact.toNat 0);have:=h.rank_kid hi hm;exact h.sem_fuel k k' _ c this.1 (by omega) (by omega)
theorem Good.S_leaf(_h:Good ds g){i:Int}(hk:(nAt g i).kids =[])(c:List Int):S ds g i c=(nAt g i).leaf :=by
 unfold S sem;rw[if_pos hk]
theorem Good.S_inner(h:Good ds g){i:Int}(hi:Rng g i)(hk:(nAt g i).kids ≠[])(c:List Int):
  S ds g i c=S ds g ((nAt g i).kids.getD (nx (nAt g i).cuts (c.getD (nAt g i).fact.toNat 0)) 0) c:=by
 have hm:=(h.inner hi hk).kid_rng (c.getD (nAt g i).fact.toNat 0);have:=h.rank_kid hi hm;have hr:=rank_le (ds:=ds) (g:=g) i
 conv=>lhs;unfold S sem
 rw[if_neg hk];exact h.sem_fuel _ _ _ c this.1 (by omega) (by omega)
theorem Good.S_indep(h:Good ds g):∀(r:Nat)(i:Int),rank ds g i≤r->Rng g i->∀(lo:Nat)(c c':List Int),((nAt g i).kids ≠[]->(lo:Int)≤(nAt g i).fact)->(∀j,lo≤j->c.getD j 0=c'.getD j 0)->S ds g i c=S ds g i c'
 |r,i,hr,hi,lo,c,c',hl,hc=>by
  by_cases hk:(nAt g i).kids =[]
  ·rw[h.S_leaf hk,h.S_leaf hk]
  ·have I:=h.inner hi hk;have hl':=hl hk;rw[h.S_inner hi hk,h.S_inner hi hk c',hc (nAt g i).fact.toNat (by omega)];have hm:=I.kid_rng (c'.getD (nAt g i).fact.toNat 0);have hrk:=h.rank_kid hi hm
   cases r with
   |zero=>omega
   |succ r=>
    refine h.S_indep r _ (by omega) hrk.1 lo c c' (λhkk=> ?_) hc;have:=I.up _ hm hkk;omega
end good
def Fit(ds:List FactD)(c:List Int):Prop:=c.length=ds.length∧∀j,j<ds.length->(ds.getD j noFact).lo ≤c.getD j 0∧c.getD j 0≤(ds.getD j noFact).hi
def LoHi(ds:List FactD):Prop:=∀j,j<ds.length->(ds.getD j noFact).lo ≤(ds.getD j noFact).hi
theorem getD_set(l:List Int)(i j:Nat)(v:Int):(l.set i v).getD j 0=if i=j∧j<l.length then v else l.getD j 0:=by
 rw[List.getD_eq_getElem?_getD,List.getElem?_set,List.getD_eq_getElem?_getD];by_cases h:i=j
 ·subst h;by_cases h2:i<l.length
  ·rw[if_pos rfl,if_pos h2,if_pos ⟨rfl,h2⟩];rfl
  ·rw[if_pos rfl,if_neg h2,if_neg (λe=>h2 e.2),List.getElem?_eq_none (by omega)]
 ·rw[if_neg h,if_neg (λe=>h e.1)]
theorem Fit.set_{ds:List FactD}{c:List Int}(h:Fit ds c){j:Nat}{v:Int}(h1:(ds.getD j noFact).lo ≤v)(h2:v≤(ds.getD j noFact).hi):Fit ds (c.set j v):=by
 refine⟨by simp[h.1],λi hi=> ?_⟩;rw[getD_set];split
 ·rename_i e;rw[<-e.1];exact⟨h1,h2⟩
 ·exact h.2 i hi
theorem LoHi.least{ds:List FactD}(h:LoHi ds):Fit ds (ds.map FactD.lo):=by
 refine⟨by simp,λj hj=> ?_⟩
 have e:(ds.map FactD.lo).getD j 0=(ds.getD j noFact).lo :=by
  simp[List.getD_eq_getElem?_getD,List.getElem?_eq_getElem hj]
 rw[e];exact⟨Int.le_refl _,h j hj⟩
def EqS(ds:List FactD)(g1 g2:List NodeD)(i1 i2:Int):Prop:=∀c,Fit ds c->S ds g1 i1 c=S ds g2 i2 c
def Uniq(ds:List FactD)(g:List NodeD)(r:Nat):Prop:=∀a b,Rng g a->Rng g b->rank ds g a<r->rank ds g b<r->EqS ds g g a b->a=b
section canon
variable {ds:List FactD} {g g1 g2:List NodeD}
theorem Good.S_kid(h:Good ds g){i:Int}(hi:Rng g i)(hk:(nAt g i).kids ≠[]){c:List Int}(hc:Fit ds c){v:Int}:
  S ds g i (c.set (nAt g i).fact.toNat v)=S ds g ((nAt g i).kids.getD (nx (nAt g i).cuts v) 0) c:=by
 have I:=h.inner hi hk;have f0:=I.f0;have f1:=I.f1;have hlt:(nAt g i).fact.toNat <c.length:=by rw[hc.1];omega
 rw[h.S_inner hi hk,getD_set,if_pos ⟨rfl,hlt⟩];have hm:=I.kid_rng v;have hrk:=h.rank_kid hi hm;refine h.S_indep _ _ (Nat.le_refl _) hrk.1 ((nAt g i).fact.toNat +1) _ _ (λhkk=> ?_) (λj hj=> ?_)
 ·have:=I.up _ hm hkk;omega
 ·rw[getD_set,if_neg (by omega)]
theorem Inner.kid_mem{n:NodeD}(h:Inner ds g n){j:Nat}(hj:j≤n.cuts.length):n.kids.getD j 0∈n.kids:=by
 have h2:=h.len;have hlt:j<n.kids.length:=by omega
 rw[List.getD_eq_getElem?_getD,List.getElem?_eq_getElem hlt];exact List.getElem_mem hlt
theorem Inner.fact_rng{n:NodeD}(h:Inner ds g n):n.fact.toNat<ds.length:=by have:=h.f0;have:=h.f1;omega
theorem Good.start_fit(h:Good ds g)(hl:LoHi ds){i:Int}(hi:Rng g i)(hk:(nAt g i).kids ≠[]){j:Nat}(hj:j≤(nAt g i).cuts.length):
  (ds.getD (nAt g i).fact.toNat noFact).lo ≤startAt (fAt ds (nAt g i).fact).lo (nAt g i).cuts j∧startAt (fAt ds (nAt g i).fact).lo (nAt g i).cuts j≤(ds.getD (nAt g i).fact.toNat noFact).hi :=by
 have I:=h.inner hi hk;exact start_rng I.asc (hl _ I.fact_rng) hj
theorem Good.depends(h:Good ds g)(hl:LoHi ds){r:Nat}(A:Uniq ds g r){i:Int}(hi:Rng g i)(hk:(nAt g i).kids ≠[])(hr:rank ds g i≤r)
  (hin:∀c v,Fit ds c->Fit ds (c.set (nAt g i).fact.toNat v)->S ds g i (c.set (nAt g i).fact.toNat v)=S ds g i c):False:=by
 have I:=h.inner hi hk;have hc1:1≤(nAt g i).cuts.length :=by have:=I.cuts;cases hc:(nAt g i).cuts with|nil=>exact absurd hc this|cons=>simp
 have hd:=I.diff 0 (by have:=I.len;omega);have m0:=I.kid_mem (j:=0) (by omega);have m1:=I.kid_mem (j:=1) hc1;have r0:=h.rank_kid hi m0;have r1:=h.rank_kid hi m1;simp only[Nat.zero_add]at hd;refine hd (A _ _ r0.1 r1.1 (by omega) (by omega) λc hc=> ?_);have s0:=h.start_fit hl hi hk (j:=0) (by omega);have s1:=h.start_fit hl hi hk (j:=1) hc1;have e0:=h.S_kid hi hk hc (v:=startAt (fAt ds (nAt g i).fact).lo (nAt g i).cuts 0);have e1:=h.S_kid hi hk hc (v:=startAt (fAt ds (nAt g i).fact).lo (nAt g i).cuts 1);rw[nx_start I.asc (by omega)]at e0;rw[nx_start I.asc hc1]at e1;rw[<-e0,<-e1,hin c _ hc (hc.set_ s0.1 s0.2),hin c _ hc (hc.set_ s1.1 s1.2)]
theorem Good.indep_set(h:Good ds g){i:Int}(hi:Rng g i){f:Int}(hf0:0≤f)(hf:(nAt g i).kids ≠[]->f<(nAt g i).fact)(c:List Int)(v:Int):S ds g i (c.set f.toNat v)=S ds g i c:=by
 refine h.S_indep _ _ (Nat.le_refl _) hi (f.toNat+1) _ _ (λhkk=> ?_) (λj hj=> ?_)
 ·have:=hf hkk;omega
 ·rw[getD_set,if_neg (by omega)]
structure Alike (ds:List FactD) (g1 g2:List NodeD) (i1 i2:Int):Prop where
 leaf:(nAt g1 i1).leaf =(nAt g2 i2).leaf
 fact:(nAt g1 i1).fact =(nAt g2 i2).fact
 cuts:(nAt g1 i1).cuts =(nAt g2 i2).cuts
 len:(nAt g1 i1).kids.length =(nAt g2 i2).kids.length
 kids:∀j,j<(nAt g1 i1).kids.length ->EqS ds g1 g2 ((nAt g1 i1).kids.getD j 0) ((nAt g2 i2).kids.getD j 0)
theorem Good.cut_iff(h:Good ds g)(_hl:LoHi ds){r:Nat}(A:Uniq ds g r){i:Int}(hi:Rng g i)(hk:(nAt g i).kids ≠[])(hr:rank ds g i≤r){v:Int}
  (_hv0:(fAt ds (nAt g i).fact).lo <v)(_hv1:v≤(fAt ds (nAt g i).fact).hi):
  v∈(nAt g i).cuts ↔¬∀c,Fit ds c->S ds g i (c.set (nAt g i).fact.toNat (v-1))=S ds g i (c.set (nAt g i).fact.toNat v):=by
 have I:=h.inner hi hk;constructor
 ·intro hm hall;have e:=nx_mem I.asc hm;have hle:=nx_le (nAt g i).cuts v;have hlen:=I.len;have hd:=I.diff (nx (nAt g i).cuts (v-1)) (by omega);have m0:=I.kid_rng (v-1);have m1:=I.kid_rng v;have r0:=h.rank_kid hi m0;have r1:=h.rank_kid hi m1;rw[<-e]at hd;refine hd (A _ _ r0.1 r1.1 (by omega) (by omega) λc hc=> ?_);rw[<-h.S_kid hi hk hc,<-h.S_kid hi hk hc];exact hall c hc
 ·intro hn;by_cases hm:v∈(nAt g i).cuts
  ·exact hm
  ·exact absurd (λc hc=>by rw[h.S_kid hi hk hc,h.S_kid hi hk hc,nx_not hm]) hn
theorem alike_of_eq(hl:LoHi ds)(h1:Good ds g1)(h2:Good ds g2){r:Nat}(A1:Uniq ds g1 r)(A2:Uniq ds g2 r){i1 i2:Int}(hi1:Rng g1 i1)(hi2:Rng g2 i2)
  (hr1:rank ds g1 i1≤r)(hr2:rank ds g2 i2≤r)(he:EqS ds g1 g2 i1 i2):Alike ds g1 g2 i1 i2:=by
 by_cases hk1:(nAt g1 i1).kids =[]
 ·by_cases hk2:(nAt g2 i2).kids =[]
  ·rcases h1.proper _ (nAt_mem hi1)with⟨_,a1,b1⟩|h
   ·rcases h2.proper _ (nAt_mem hi2)with⟨_,a2,b2⟩|h
    ·have:=he _ hl.least;rw[h1.S_leaf hk1,h2.S_leaf hk2]at this;exact⟨this,by rw[a1,a2],by rw[b1,b2],by rw[hk1,hk2],λj hj=>by rw[hk1]at hj;simp at hj⟩
    ·exact absurd hk2 h.ne
   ·exact absurd hk1 h.ne
  ·exfalso;have I:=h2.inner hi2 hk2;(refine h2.depends hl A2 hi2 hk2 hr2 λc v hc hc'=> ?_);rw[<-he _ hc,<-he _ hc'];exact h1.indep_set hi1 I.f0 (λh=>absurd hk1 h) c v
 ·have I1:=h1.inner hi1 hk1;by_cases hk2:(nAt g2 i2).kids =[]
  ·exfalso;(refine h1.depends hl A1 hi1 hk1 hr1 λc v hc hc'=> ?_);rw[he _ hc,he _ hc'];exact h2.indep_set hi2 I1.f0 (λh=>absurd hk2 h) c v
  ·have I2:=h2.inner hi2 hk2
   have hf:(nAt g1 i1).fact =(nAt g2 i2).fact :=by
    rcases Int.lt_trichotomy (nAt g1 i1).fact (nAt g2 i2).fact with hlt|e|hgt
    ·exfalso;(refine h1.depends hl A1 hi1 hk1 hr1 λc v hc hc'=> ?_);rw[he _ hc,he _ hc'];exact h2.indep_set hi2 I1.f0 (λ_=>hlt) c v
    ·exact e
    ·exfalso;(refine h2.depends hl A2 hi2 hk2 hr2 λc v hc hc'=> ?_);rw[<-he _ hc,<-he _ hc'];exact h1.indep_set hi1 I2.f0 (λ_=>hgt) c v
   have hval:∀c v,Fit ds c->(fAt ds (nAt g1 i1).fact).lo ≤v->v≤(fAt ds (nAt g1 i1).fact).hi ->S ds g1 i1 (c.set (nAt g1 i1).fact.toNat v)=S ds g2 i2 (c.set (nAt g2 i2).fact.toNat v):=by
    intro c v hc a b;rw[<-hf];exact he _ (hc.set_ a b)
   have hcuts:(nAt g1 i1).cuts =(nAt g2 i2).cuts :=by
    have a1:=I1.asc;have a2:=I2.asc;rw[<-hf]at a2;(refine asc_ext a1 a2 λv=> ?_);by_cases hv:(fAt ds (nAt g1 i1).fact).lo <v∧v≤(fAt ds (nAt g1 i1).fact).hi
    ·rw[h1.cut_iff hl A1 hi1 hk1 hr1 hv.1 hv.2,h2.cut_iff hl A2 hi2 hk2 hr2 (by rw[<-hf];exact hv.1) (by rw[<-hf];exact hv.2)];refine not_congr ⟨λh c hc=> ?_,λh c hc=> ?_⟩
     ·rw[<-hval c _ hc (by omega) (by omega),<-hval c _ hc (by omega) (by omega)];exact h c hc
     ·rw[hval c _ hc (by omega) (by omega),hval c _ hc (by omega) (by omega)];exact h c hc
    ·exact⟨λh=>absurd (asc_mem a1 v h) hv,λh=>absurd (asc_mem a2 v h) hv⟩
   refine⟨by rw[I1.leaf,I2.leaf],hf,hcuts,by rw[I1.len,I2.len,hcuts],λj hj c hc=> ?_⟩;(have hj1:j≤(nAt g1 i1).cuts.length :=by have:=I1.len;omega);(have hj2:j≤(nAt g2 i2).cuts.length :=by rw[<-hcuts];exact hj1);have s:=h1.start_fit hl hi1 hk1 hj1;have e1:=h1.S_kid hi1 hk1 hc (v:=startAt (fAt ds (nAt g1 i1).fact).lo (nAt g1 i1).cuts j);have e2:=h2.S_kid hi2 hk2 hc (v:=startAt (fAt ds (nAt g1 i1).fact).lo (nAt g1 i1).cuts j);have e3:=hval c _ hc s.1 s.2;rw[nx_start I1.asc hj1]at e1;have a2:=I2.asc;rw[<-hf]at a2;rw[show nx (nAt g2 i2).cuts (startAt (fAt ds (nAt g1 i1).fact).lo (nAt g1 i1).cuts j)=j by rw[hcuts];exact nx_start a2 hj2]at e2;rw[<-e1,<-e2,e3]
theorem NodeD.ext'{a b:NodeD}(h1:a.leaf=b.leaf)(h2:a.fact=b.fact)(h3:a.cuts=b.cuts)(h4:a.kids=b.kids):a=b:=by
 cases a;cases b;simp at h1 h2 h3 h4;subst h1 h2 h3 h4;rfl
theorem list_ext_getD{l m:List Int}(h:l.length=m.length)(hj:∀j,j<l.length->l.getD j 0=m.getD j 0):l=m:=by
 apply List.ext_getElem h;intro i h1 h2;have:=hj i h1;simpa[List.getD_eq_getElem?_getD,List.getElem?_eq_getElem h1,List.getElem?_eq_getElem h2]using this
theorem mem_getD{l:List Int}{j:Nat}(hj:j<l.length):l.getD j 0∈l:=by
 rw[List.getD_eq_getElem?_getD,List.getElem?_eq_getElem hj];exact List.getElem_mem hj
theorem Good.uniq_all(hl:LoHi ds)(h:Good ds g):∀r,Uniq ds g r
 |0=>λ_ _ _ _ h1 _ _=>by omega
 |r+1=>λa b ha hb hra hrb he=>by
  have A:=Good.uniq_all hl h r;have K:=alike_of_eq hl h h A A ha hb (by omega) (by omega) he;refine nodup_at h.nodup ha hb (NodeD.ext' K.leaf K.fact K.cuts (list_ext_getD K.len λj hj=> ?_));have r1:=h.rank_kid ha (mem_getD hj);have r2:=h.rank_kid hb (mem_getD (K.len▸hj));exact A _ _ r1.1 r2.1 (by omega) (by omega) (K.kids j hj)
theorem Good.uniq(hl:LoHi ds)(h:Good ds g){a b:Int}(ha:Rng g a)(hb:Rng g b)(he:EqS ds g g a b):a=b:=
 h.uniq_all hl (ds.length+1) a b ha hb (by have:=rank_le (ds:=ds) (g:=g) a;omega) (by have:=rank_le (ds:=ds) (g:=g) b;omega) he
theorem Good.alike(hl:LoHi ds)(h1:Good ds g1)(h2:Good ds g2){a b:Int}(ha:Rng g1 a)(hb:Rng g2 b)(he:EqS ds g1 g2 a b):Alike ds g1 g2 a b:=
 alike_of_eq hl h1 h2 (h1.uniq_all hl ds.length) (h2.uniq_all hl ds.length) ha hb (rank_le _) (rank_le _) he
end canon
def visitS(g:List NodeD):Nat->Int->List Int->List Int
 |0,_,o=>o
 |k+1,i,o=>if i∈o then o else(nAt g i).kids.foldl (λo x=>visitS g k x o) (o++[i])
def orderS(ds:List FactD)(g:List NodeD)(i:Int):List Int:=visitS g (ds.length+1) i []
def placeS(o:List Int)(k:Int):Int:=if k∈o then(o.idxOf k:Nat)else 0
def renum(g:List NodeD)(o:List Int)(i:Int):NodeD:=⟨(nAt g i).leaf,(nAt g i).fact,(nAt g i).cuts,(nAt g i).kids.map (placeS o)⟩
def canonS(ds:List FactD)(g:List NodeD)(i:Int):List NodeD:=(orderS ds g i).map (renum g (orderS ds g i))
section visit
variable {ds:List FactD} {g g1 g2:List NodeD}
structure Visit (g:List NodeD) (o o':List Int):Prop where
 pre:∃t,o'=o++t
 nodup:o'.Nodup
 rng:∀x∈o',Rng g x
 kids:∀x∈o',x∉o->∀y∈(nAt g x).kids,y∈o'
theorem Visit.sub{o o':List Int}(h:Visit g o o'){x:Int}(hx:x∈o):x∈o':=by
 obtain⟨t,rfl⟩:=h.pre;exact List.mem_append_left _ hx
theorem Visit.trans{o o' o'':List Int}(h:Visit g o o')(k:Visit g o' o''):Visit g o o'':=by
 refine⟨?_,k.nodup,k.rng,λx hx hxo y hy=> ?_⟩
 ·obtain⟨t,rfl⟩:=h.pre;obtain⟨t',rfl⟩:=k.pre;exact⟨t++t',by simp⟩
 ·by_cases h':x∈o'
  ·exact k.sub (h.kids x h' hxo y hy)
  ·exact k.kids x hx h' y hy
theorem visit_spec(h:Good ds g):∀(k:Nat)(i:Int)(o:List Int),Rng g i->rank ds g i<k->(∀x∈o,Rng g x)->o.Nodup->Visit g o (visitS g k i o)∧i∈visitS g k i o
 |0,_,_,_,hr,_,_=>by omega
 |k+1,i,o,hi,hr,ho,hn=>by
  unfold visitS;by_cases hm:i∈o
  ·rw[if_pos hm];exact⟨⟨⟨[],by simp⟩,hn,ho,λx hx hxo=>absurd hx hxo⟩,hm⟩
  ·rw[if_neg hm]
   have fold:∀(l o:List Int),(∀x∈l,Rng g x∧rank ds g x<k)->(∀x∈o,Rng g x)->o.Nodup->
     Visit g o (l.foldl (λo x=>visitS g k x o) o)∧∀x∈l,x∈l.foldl (λo x=>visitS g k x o) o:=by
    intro l
    induction l with
    |nil=>intro o _ ho hn;exact⟨⟨⟨[],by simp⟩,hn,ho,λx hx hxo=>absurd hx hxo⟩,by simp⟩
    |cons a l ih=>
     intro o hl ho hn;obtain⟨v1,m1⟩:=visit_spec h k a o (hl a (by simp)).1 (hl a (by simp)).2 ho hn;obtain⟨v2,m2⟩:=ih (visitS g k a o) (λx hx=>hl x (List.mem_cons_of_mem _ hx)) v1.rng v1.nodup;refine⟨v1.trans v2,λx hx=> ?_⟩;rcases List.mem_cons.1 hx with rfl|hx
     ·exact v2.sub m1
     ·exact m2 x hx
   have ho':∀x∈o++[i],Rng g x:=λx hx=>by
    rcases List.mem_append.1 hx with hx|hx
    ·exact ho x hx
    ·simp at hx;rw[hx];exact hi
   have hn':(o++[i]).Nodup :=by
    rw[List.nodup_append];exact⟨hn,by simp,λa ha b hb e=>by simp at hb;subst hb;exact hm (e▸ha)⟩
   obtain⟨v,m⟩:=fold (nAt g i).kids (o++[i]) (λx hx=>by have:=h.rank_kid hi hx;exact⟨this.1,by omega⟩) ho' hn';refine⟨⟨?_,v.nodup,v.rng,λx hx hxo y hy=> ?_⟩,v.sub (by simp)⟩
   ·obtain⟨t,e⟩:=v.pre;exact⟨i::t,by rw[e];simp⟩
   ·by_cases e:x=i
    ·subst e;exact m y hy
    ·exact v.kids x hx (by simp[hxo,e]) y hy
theorem visit_head(_h:Good ds g)(k:Nat)(i:Int):∃t,visitS g (k+1) i []=i::t:=by
 have fold:∀(l o:List Int),∃t,l.foldl (λo x=>visitS g k x o) o=o++t:=by
  have pre:∀(k:Nat)(i:Int)(o:List Int),∃t,visitS g k i o=o++t:=by
   intro k
   induction k with
   |zero=>intro i o;exact⟨[],by simp[visitS]⟩
   |succ k ih=>
    intro i o;unfold visitS;split
    ·exact⟨[],by simp⟩
    ·have:∀(l o:List Int),∃t,l.foldl (λo x=>visitS g k x o) o=o++t:=by
      intro l
      induction l with
      |nil=>intro o;exact⟨[],by simp⟩
      |cons a l ih'=>
       intro o;obtain⟨t,e⟩:=ih a o;obtain⟨t',e'⟩:=ih' (visitS g k a o);exact⟨t++t',by rw[List.foldl_cons,e',e];simp⟩
     obtain⟨t,e⟩:=this (nAt g i).kids (o++[i]);exact⟨i::t,by rw[e];simp⟩
  intro l
  induction l with
  |nil=>intro o;exact⟨[],by simp⟩
  |cons a l ih=>
   intro o;obtain⟨t,e⟩:=pre k a o;obtain⟨t',e'⟩:=ih (visitS g k a o);exact⟨t++t',by rw[List.foldl_cons,e',e];simp⟩
 unfold visitS;rw[if_neg (by simp)];obtain⟨t,e⟩:=fold (nAt g i).kids ([]++[i]);exact⟨t,by rw[e];rfl⟩
structure Order (ds:List FactD) (g:List NodeD) (i:Int) (o:List Int):Prop where
 head:∃t,o=i::t
 nodup:o.Nodup
 rng:∀x∈o,Rng g x
 kids:∀x∈o,∀y∈(nAt g x).kids,y∈o
theorem order_spec(h:Good ds g){i:Int}(hi:Rng g i):Order ds g i (orderS ds g i):=by
 have hr:=rank_le (ds:=ds) (g:=g) i;obtain⟨v,_⟩:=visit_spec h (ds.length+1) i [] hi (by omega) (by simp) (by simp);exact⟨visit_head h ds.length i,v.nodup,v.rng,λx hx=>v.kids x hx (by simp)⟩
theorem nodup_length_le:∀(n:Nat)(l:List Int),l.Nodup->(∀x∈l,0≤x∧x<n)->l.length≤n
 |0,l,_,h=>by
  cases l with
  |nil=>simp
  |cons a r=>have:=h a (by simp);omega
 |n+1,l,hn,h=>by
  have h1:(l.erase (n:Int)).length ≤n:=nodup_length_le n _ (hn.erase _) (λx hx=>by
   have a:=h x (List.mem_of_mem_erase hx)
   have b:x≠(n:Int):=λe=>by
    subst e;have:=(List.Nodup.mem_erase_iff hn).1 hx;exact this.1 rfl
   omega)
  have h2:=List.length_erase (a:=(n:Int)) (l:=l);split at h2<;>omega
theorem Order.length_le{i:Int}{o:List Int}(h:Order ds g i o):o.length≤g.length:=nodup_length_le _ _ h.nodup h.rng
inductive R2 (R:Int->Int->Prop):List Int->List Int->Prop where
 |nil:R2 R [] []
 |cons {a b:Int} {l m:List Int}:R a b->R2 R l m->R2 R (a::l) (b::m)
theorem R2.of_getD{R:Int->Int->Prop}:∀{l m:List Int},l.length=m.length->(∀j,j<l.length->R (l.getD j 0) (m.getD j 0))->R2 R l m
 |[],[],_,_=> .nil
 |[],_::_,h,_=>by simp at h
 | _::_,[],h,_=>by simp at h
 |a::l,b::m,h,hj=> .cons (by simpa using hj 0 (by simp)) (R2.of_getD (by simpa using h) λj hlt=>by simpa using hj (j+1) (by simpa using hlt))
theorem R2.append{R:Int->Int->Prop}{l m l' m':List Int}(h:R2 R l m)(h':R2 R l' m'):R2 R (l++l') (m++m'):=by
 induction h with
 |nil=>exact h'
 |cons h _ ih=>exact .cons h ih
theorem R2.mem{R:Int->Int->Prop}(hr:∀a a' b,R a b->R a' b->a=a')(hl:∀a b b',R a b->R a b'->b=b'){l m:List Int}(h:R2 R l m){a b:Int}(hab:R a b):a∈l↔b∈m:=by
 induction h with
 |nil=>simp
 |cons h _ ih=>
  rename_i x y l m _;simp only[List.mem_cons,ih];refine or_congr ⟨λe=> ?_,λe=> ?_⟩ Iff.rfl
  ·subst e;exact hl _ _ _ hab h
  ·subst e;exact hr _ _ _ hab h
theorem R2.idx{R:Int->Int->Prop}(hr:∀a a' b,R a b->R a' b->a=a')(hl:∀a b b',R a b->R a b'->b=b'){l m:List Int}(h:R2 R l m){a b:Int}(hab:R a b):l.idxOf a=m.idxOf b:=by
 induction h with
 |nil=>rfl
 |cons h _ ih=>
  rename_i x y l m _;rw[List.idxOf_cons,List.idxOf_cons,ih]
  have:(x==a)=(y==b):=by
   rw[Bool.eq_iff_iff,beq_iff_eq,beq_iff_eq];constructor
   ·intro e;subst e;exact hl _ _ _ h hab
   ·intro e;subst e;exact hr _ _ _ h hab
  rw[this]
theorem R2.map_eq{α:Type}{R:Int->Int->Prop}{f f':Int->α}{l m:List Int}(h:R2 R l m)(hf:∀a b,R a b->f a=f' b):l.map f=m.map f':=by
 induction h with
 |nil=>rfl
 |cons h _ ih=>rw[List.map_cons,List.map_cons,ih,hf _ _ h]
theorem visit_sim{R:Int->Int->Prop}(hr:∀a a' b,R a b->R a' b->a=a')(hl:∀a b b',R a b->R a b'->b=b')(hk:∀a b,R a b->R2 R (nAt g1 a).kids (nAt g2 b).kids):
  ∀(k:Nat)(a b:Int)(o1 o2:List Int),R a b->R2 R o1 o2->R2 R (visitS g1 k a o1) (visitS g2 k b o2)
 |0,_,_,_,_,_,h=>by simpa[visitS]using h
 |k+1,a,b,o1,o2,hab,h=>by
  unfold visitS;have hm:=R2.mem hr hl h hab;by_cases h1:a∈o1
  ·rw[if_pos h1,if_pos (hm.1 h1)];exact h
  ·rw[if_neg h1,if_neg (λh=>h1 (hm.2 h))]
   have fold:∀{l m:List Int},R2 R l m->∀o1 o2,R2 R o1 o2->R2 R (l.foldl (λo x=>visitS g1 k x o) o1) (m.foldl (λo x=>visitS g2 k x o) o2):=by
    intro l m hlm
    induction hlm with
    |nil=>intro o1 o2 ho;exact ho
    |cons h _ ih=>intro o1 o2 ho;exact ih _ _ (visit_sim hr hl hk k _ _ _ _ h ho)
   exact fold (hk a b hab) _ _ (h.append (.cons hab .nil))
theorem canon_eq(hl:LoHi ds)(h1:Good ds g1)(h2:Good ds g2){a b:Int}(ha:Rng g1 a)(hb:Rng g2 b)(he:EqS ds g1 g2 a b):canonS ds g1 a=canonS ds g2 b:=by
 let R:Int->Int->Prop:=λa b=>Rng g1 a∧Rng g2 b∧EqS ds g1 g2 a b
 have hr:∀a a' b,R a b->R a' b->a=a':=λa a' b h h'=>h1.uniq hl h.1 h'.1 λc hc=>by rw[h.2.2 c hc,h'.2.2 c hc]
 have hll:∀a b b',R a b->R a b'->b=b':=λa b b' h h'=>h2.uniq hl h.2.1 h'.2.1 λc hc=>by rw[<-h.2.2 c hc,<-h'.2.2 c hc]
 have hkk:∀a b,R a b->R2 R (nAt g1 a).kids (nAt g2 b).kids :=λa b h=>by
  have K:=Good.alike hl h1 h2 h.1 h.2.1 h.2.2;exact R2.of_getD K.len λj hj=>⟨(h1.rank_kid h.1 (mem_getD hj)).1,(h2.rank_kid h.2.1 (mem_getD (K.len▸hj))).1,K.kids j hj⟩
 have ho:R2 R (orderS ds g1 a) (orderS ds g2 b):=visit_sim hr hll hkk _ _ _ _ _ ⟨ha,hb,he⟩ .nil;unfold canonS;refine ho.map_eq λx y hxy=> ?_
 have K:=Good.alike hl h1 h2 hxy.1 hxy.2.1 hxy.2.2;unfold renum;refine NodeD.ext' K.leaf K.fact K.cuts ?_;refine(hkk x y hxy).map_eq λu v huv=> ?_
 unfold placeS;by_cases hu:u∈orderS ds g1 a
 ·rw[if_pos hu,if_pos ((ho.mem hr hll huv).1 hu),ho.idx hr hll huv]
 ·rw[if_neg hu,if_neg (λh=>hu ((ho.mem hr hll huv).2 h))]
end visit
section renumber
variable {ds:List FactD} {g:List NodeD} {i:Int} {o:List Int}
theorem place_rng{k:Int}(hk:k∈o):0≤placeS o k∧placeS o k<o.length:=by
 unfold placeS;rw[if_pos hk];have:=List.idxOf_lt_length_of_mem hk;omega
theorem place_inj{a b:Int}(ha:a∈o)(hb:b∈o)(h:placeS o a=placeS o b):a=b:=by
 unfold placeS at h;rw[if_pos ha,if_pos hb]at h;have h1:=List.getElem_idxOf (List.idxOf_lt_length_of_mem ha);have h2:=List.getElem_idxOf (List.idxOf_lt_length_of_mem hb);have e:o.idxOf a=o.idxOf b:=by omega
 rw[<-h1,<-h2];simp only[e]
theorem renum_at{f:Int->NodeD}{k:Int}(hk:k∈o):nAt (o.map f) (placeS o k)=f k:=by
 have hlt:=List.idxOf_lt_length_of_mem hk;unfold placeS;rw[if_pos hk,nAt_nat (by simpa using hlt),List.getElem_map,List.getElem_idxOf hlt]
theorem renum_good(h:Good ds g)(ho:Order ds g i o):Good ds (o.map (renum g o)):=by
 constructor
 ·intro n hn;obtain⟨x,hx,rfl⟩:=List.mem_map.1 hn;rcases h.proper _ (nAt_mem (ho.rng x hx))with hp|I
  ·left;exact⟨by simp[renum,hp.1],hp.2.1,hp.2.2⟩
  ·right;have hkid:=ho.kids x hx;refine⟨by simp[renum,I.ne],I.leaf,I.f0,I.f1,I.cuts,by simp[renum,I.len],I.asc,λk hk=> ?_,λk hk=> ?_,λj hj=> ?_⟩
   ·obtain⟨y,hy,rfl⟩:=List.mem_map.1 hk;have:=place_rng (hkid y hy);exact⟨this.1,by rw[List.length_map];exact this.2⟩
   ·obtain⟨y,hy,rfl⟩:=List.mem_map.1 hk;rw[renum_at (hkid y hy)];intro hne;exact I.up y hy (by intro e;simp[renum,e]at hne)
   ·have hj':j+1<(nAt g x).kids.length :=by simpa[renum]using hj
    have e:∀j,j<(nAt g x).kids.length ->(renum g o x).kids.getD j 0=placeS o ((nAt g x).kids.getD j 0):=λj hj=>by
     simp[renum,List.getD_eq_getElem?_getD,List.getElem?_eq_getElem hj]
    rw[e j (by omega),e (j+1) hj'];intro hh;exact I.diff j hj' (place_inj (hkid _ (mem_getD (by omega))) (hkid _ (mem_getD hj')) hh)
 ·have hp:(o.map (renum g o)).Pairwise (· ≠ ·):=by
   rw[List.pairwise_map];refine List.Pairwise.imp_of_mem (R:=(· ≠ ·)) (λ{a b} ha hb hne e=>hne ?_) ho.nodup;unfold renum at e;injection e with e1 e2 e3 e4;refine nodup_at h.nodup (ho.rng a ha) (ho.rng b hb) (NodeD.ext' e1 e2 e3 ?_);have hka:=ho.kids a ha;have hkb:=ho.kids b hb;(have hlen:(nAt g a).kids.length =(nAt g b).kids.length :=by have:=congrArg List.length e4;simpa using this);(refine list_ext_getD hlen λj hj=> ?_);refine place_inj (hka _ (mem_getD hj)) (hkb _ (mem_getD (hlen▸hj))) ?_;have:=congrArg (λl=>l.getD j 0) e4;simpa[List.getD_eq_getElem?_getD,List.getElem?_eq_getElem hj,List.getElem?_eq_getElem (hlen▸hj)]using this
  exact hp
theorem renum_S(h:Good ds g)(ho:Order ds g i o):∀(r:Nat)(x:Int),x∈o->rank ds g x≤r->∀c,S ds (o.map (renum g o)) (placeS o x) c=S ds g x c
 |r,x,hx,hr,c=>by
  have h':=renum_good h ho;have hi:=ho.rng x hx;have hat:nAt (o.map (renum g o)) (placeS o x)=renum g o x:=renum_at hx;have hp:=place_rng hx;have hi':Rng (o.map (renum g o)) (placeS o x):=⟨hp.1,by rw[List.length_map];exact hp.2⟩;by_cases hk:(nAt g x).kids =[]
  ·rw[h.S_leaf hk,h'.S_leaf (by rw[hat];simp[renum,hk]),hat];rfl
  ·rw[h.S_inner hi hk,h'.S_inner hi' (by rw[hat];simp[renum,hk]),hat];have I:=h.inner hi hk;have hm:=I.kid_rng (c.getD (nAt g x).fact.toNat 0);have hrk:=h.rank_kid hi hm;have hlt:nx (nAt g x).cuts (c.getD (nAt g x).fact.toNat 0)<(nAt g x).kids.length :=by have:=nx_le (nAt g x).cuts (c.getD (nAt g x).fact.toNat 0);have:=I.len;omega
   have e:(renum g o x).kids.getD (nx (renum g o x).cuts (c.getD (renum g o x).fact.toNat 0)) 0=placeS o ((nAt g x).kids.getD (nx (nAt g x).cuts (c.getD (nAt g x).fact.toNat 0)) 0):=by
    show((nAt g x).kids.map (placeS o)).getD (nx (nAt g x).cuts (c.getD (nAt g x).fact.toNat 0)) 0=_;generalize nx (nAt g x).cuts (c.getD (nAt g x).fact.toNat 0)=q at*;simp[List.getD_eq_getElem?_getD,List.getElem?_eq_getElem hlt]
   rw[e]
   cases r with
   |zero=>omega
   |succ r=>exact renum_S h ho r _ (ho.kids x hx _ hm) (by omega) c
theorem place_head(ho:Order ds g i o):placeS o i=0:=by
 obtain⟨t,rfl⟩:=ho.head;unfold placeS;rw[if_pos (by simp)];simp
theorem canon_good(h:Good ds g)(hi:Rng g i):Good ds (canonS ds g i):=renum_good h (order_spec h hi)
theorem canon_rng(h:Good ds g)(hi:Rng g i):Rng (canonS ds g i) 0:=by
 obtain⟨t,e⟩:=(order_spec h hi).head;refine⟨Int.le_refl _,?_⟩;unfold canonS;rw[List.length_map,e];simp
theorem canon_S(h:Good ds g)(hi:Rng g i)(c:List Int):S ds (canonS ds g i) 0 c=S ds g i c:=by
 have ho:=order_spec h hi;have:=renum_S h ho _ i (by obtain⟨t,e⟩:=ho.head;rw[e];simp) (Nat.le_refl _) c;rw[place_head ho]at this;exact this
theorem canon_again(hl:LoHi ds)(h:Good ds g)(hi:Rng g i):canonS ds (canonS ds g i) 0=canonS ds g i:=
 canon_eq hl (canon_good h hi) h (canon_rng h hi) hi λc _=>canon_S h hi c
end renumber
def nodeS(all:List NodeD)(n:NodeD):Int × List NodeD:=if n∈all then((all.idxOf n:Nat),all)else((all.length:Nat),all++[n])
def mergeS:Int->List Int->List Int->List Int × List Int
 |last,s::ss,k::ks=>if k=last then mergeS last ss ks else(s::(mergeS k ss ks).1,k::(mergeS k ss ks).2)
 | _,_,_=>([],[])
def innerS(all:List NodeD)(i:Int)(starts kids:List Int):Int × List NodeD:=
 if(mergeS (kids.getD 0 0) starts kids).2=[]then(kids.getD 0 0,all)
 else nodeS all ⟨false,i,(mergeS (kids.getD 0 0) starts kids).1,kids.getD 0 0::(mergeS (kids.getD 0 0) starts kids).2⟩
section ext
variable {ds:List FactD} {g t:List NodeD}
theorem Rng.app{i:Int}(h:Rng g i)(t:List NodeD):Rng (g++t) i:=⟨h.1,by have:=h.2;simp;omega⟩
theorem nAt_app{i:Int}(h:Rng g i)(t:List NodeD):nAt (g++t) i=nAt g i:=by
 unfold nAt;have h0:=h.1;have h1:=h.2;have:i.toNat<g.length:=by omega
 rw[List.getD_eq_getElem?_getD,List.getD_eq_getElem?_getD,List.getElem?_append_left this]
theorem S_app(h:Good ds g)(h':Good ds (g++t)):∀(r:Nat)(i:Int),Rng g i->rank ds g i≤r->∀c,S ds (g++t) i c=S ds g i c
 |r,i,hi,hr,c=>by
  by_cases hk:(nAt g i).kids =[]
  ·rw[h.S_leaf hk,h'.S_leaf (by rw[nAt_app hi];exact hk),nAt_app hi]
  ·have I:=h.inner hi hk;have hm:=I.kid_rng (c.getD (nAt g i).fact.toNat 0);have hrk:=h.rank_kid hi hm;rw[h.S_inner hi hk,h'.S_inner (hi.app t) (by rw[nAt_app hi];exact hk),nAt_app hi]
   cases r with
   |zero=>omega
   |succ r=>exact S_app h h' r _ hrk.1 (by omega) c
theorem S_app'(h:Good ds g)(h':Good ds (g++t)){i:Int}(hi:Rng g i)(c:List Int):S ds (g++t) i c=S ds g i c:=S_app h h' _ i hi (Nat.le_refl _) c
theorem Inner.app{n:NodeD}(h:Inner ds g n)(t:List NodeD):Inner ds (g++t) n:=
 ⟨h.ne,h.leaf,h.f0,h.f1,h.cuts,h.len,h.asc,λk hk=>(h.rng k hk).app t,λk hk=>by rw[nAt_app (h.rng k hk)];exact h.up k hk,h.diff⟩
theorem Proper.app{n:NodeD}(h:Proper ds g n)(t:List NodeD):Proper ds (g++t) n:=h.imp id (λh=>h.app t)
theorem Good.nil(ds:List FactD):Good ds []:=⟨λ_ h=>absurd h (by simp),by simp⟩
structure Made (ds:List FactD) (g g':List NodeD) (i:Int):Prop where
 pre:∃t,g'=g++t
 good:Good ds g'
 rng:Rng g' i
theorem Made.S_old{g':List NodeD}{i j:Int}(h:Made ds g g' i)(hg:Good ds g)(hj:Rng g j)(c:List Int):S ds g' j c=S ds g j c:=by
 obtain⟨t,rfl⟩:=h.pre;exact S_app' hg h.good hj c
theorem node_made(h:Good ds g){n:NodeD}(hn:Proper ds g n):Made ds g (nodeS g n).2 (nodeS g n).1∧nAt (nodeS g n).2 (nodeS g n).1=n:=by
 unfold nodeS;by_cases hm:n∈g
 ·rw[if_pos hm];have hlt:=List.idxOf_lt_length_of_mem hm;refine⟨⟨⟨[],by simp⟩,h,⟨by simp,by simpa using hlt⟩⟩,?_⟩;rw[nAt_nat hlt,List.getElem_idxOf hlt]
 ·rw[if_neg hm];have hr:Rng (g++[n]) (g.length:Nat):=⟨by omega,by simp;omega⟩;refine⟨⟨⟨[n],rfl⟩,⟨λm hm'=> ?_,?_⟩,hr⟩,?_⟩
  ·rcases List.mem_append.1 hm' with h'|h'
   ·exact(h.proper m h').app _
   ·simp at h';rw[h'];exact hn.app _
  ·rw[List.nodup_append];exact⟨h.nodup,by simp,λa ha b hb e=>by simp at hb;subst hb;exact hm (e▸ha)⟩
  ·simp only;rw[nAt_nat (by simp)];simp
end ext
theorem merge_len:∀(last:Int)(ss ks:List Int),(mergeS last ss ks).1.length =(mergeS last ss ks).2.length
 |last,s::ss,k::ks=>by
  unfold mergeS;split
  ·exact merge_len last ss ks
  ·simp[merge_len k ss ks]
 | _,[],_=>rfl
 | _,_::_,[]=>rfl
theorem merge_asc:∀(last lo hi:Int)(ss ks:List Int),ascFrom lo hi ss->ascFrom lo hi (mergeS last ss ks).1
 |last,lo,hi,s::ss,k::ks,h=>by
  unfold mergeS;split
  ·exact merge_asc last lo hi ss ks (asc_mono h.2.2 (Int.le_of_lt h.1))
  ·exact⟨h.1,h.2.1,merge_asc k s hi ss ks h.2.2⟩
 | _,_,_,[],_,_=>trivial
 | _,_,_,_::_,[],_=>trivial
theorem merge_mem:∀(last:Int)(ss ks:List Int),∀k∈(mergeS last ss ks).2,k∈ks
 |last,s::ss,k::ks,x,hx=>by
  unfold mergeS at hx;split at hx
  ·exact List.mem_cons_of_mem _ (merge_mem last ss ks x hx)
  ·rcases List.mem_cons.1 hx with rfl|hx
   ·simp
   ·exact List.mem_cons_of_mem _ (merge_mem k ss ks x hx)
 | _,[],_,_,h=>absurd h (by simp[mergeS])
 | _,_::_,[],_,h=>absurd h (by simp[mergeS])
theorem merge_diff:∀(last:Int)(ss ks:List Int)(j:Nat),j+1<(last::(mergeS last ss ks).2).length ->(last::(mergeS last ss ks).2).getD j 0≠(last::(mergeS last ss ks).2).getD (j+1) 0
 |last,s::ss,k::ks,j,hj=>by
  unfold mergeS at hj⊢;split
  ·rename_i h;rw[if_pos h]at hj;exact merge_diff last ss ks j hj
  ·rename_i h;rw[if_neg h]at hj
   cases j with
   |zero=>simp;exact λe=>h e.symm
   |succ j=>
    have:=merge_diff k ss ks j (by simpa using hj);simpa using this
 | _,[],_,j,hj=>by simp[mergeS]at hj
 | _,_::_,[],j,hj=>by simp[mergeS]at hj
theorem merge_pick:∀(last lo hi:Int)(ss ks:List Int)(v:Int),ss.length=ks.length->ascFrom lo hi ss->
  (last::(mergeS last ss ks).2).getD (nx (mergeS last ss ks).1 v) 0=(last::ks).getD (nx ss v) 0
 |last,lo,hi,s::ss,k::ks,v,hl,h=>by
  have hl':ss.length=ks.length:=by simpa using hl
  unfold mergeS;by_cases hk:k=last
  ·rw[if_pos hk,merge_pick last s hi ss ks v hl' h.2.2];rw[show nx (s::ss) v=if v<s then 0 else nx ss v+1 from rfl];by_cases hv:v<s
   ·rw[if_pos hv,nx_low h.2.2 (v:=v) (by omega)];rfl
   ·rw[if_neg hv,hk,List.getD_cons_succ]
  ·rw[if_neg hk];simp only[nx];by_cases hv:v<s
   ·rw[if_pos hv,if_pos hv];rfl
   ·rw[if_neg hv,if_neg hv,List.getD_cons_succ,List.getD_cons_succ];exact merge_pick k s hi ss ks v hl' h.2.2
 | _,_,_,[],[],_,_,_=>by simp[mergeS,nx]
 | _,_,_,[],_::_,_,h,_=>by simp at h
 | _,_,_,_::_,[],_,h,_=>by simp at h
theorem merge_first(k:Int)(s:Int)(ss ks:List Int):mergeS k (s::ss) (k::ks)=mergeS k ss ks:=by
 rw[mergeS,if_pos rfl]
theorem inner_made{ds:List FactD}{g:List NodeD}(h:Good ds g){i:Nat}(hi:i<ds.length){rest:List Int}{k0:Int}{ks:List Int}(hl:rest.length=ks.length)
  (ha:ascFrom (ds.getD i noFact).lo (ds.getD i noFact).hi rest)(hr:∀k∈k0::ks,Rng g k)(hu:∀k∈k0::ks,(nAt g k).kids ≠[]->(i:Int)<(nAt g k).fact):
  Made ds g (innerS g i ((ds.getD i noFact).lo ::rest) (k0::ks)).2 (innerS g i ((ds.getD i noFact).lo ::rest) (k0::ks)).1∧
  (∀c,S ds (innerS g i ((ds.getD i noFact).lo ::rest) (k0::ks)).2 (innerS g i ((ds.getD i noFact).lo ::rest) (k0::ks)).1 c=S ds g ((k0::ks).getD (nx rest (c.getD i 0)) 0) c)∧
  ((nAt (innerS g i ((ds.getD i noFact).lo ::rest) (k0::ks)).2 (innerS g i ((ds.getD i noFact).lo ::rest) (k0::ks)).1).kids ≠[]->
   (i:Int)≤(nAt (innerS g i ((ds.getD i noFact).lo ::rest) (k0::ks)).2 (innerS g i ((ds.getD i noFact).lo ::rest) (k0::ks)).1).fact):=by
 unfold innerS;simp only[List.getD_cons_zero,merge_first];have hp:=λv=>merge_pick k0 _ _ rest ks v hl ha
 have hlen:=merge_len k0 rest ks;have hasc:=merge_asc k0 _ _ rest ks ha;have hmem:=merge_mem k0 rest ks;have hdiff:=merge_diff k0 rest ks;generalize mergeS k0 rest ks=m at*;by_cases he:m.2=[]
 ·rw[if_pos he];refine⟨⟨⟨[],by simp⟩,h,hr k0 (by simp)⟩,λc=> ?_,λhk=>Int.le_of_lt (hu k0 (by simp) hk)⟩;have h1:m.1=[]:=List.eq_nil_of_length_eq_zero (by rw[hlen,he];rfl);rw[<-hp,h1,he];rfl
 ·rw[if_neg he]
  have hmem':∀k∈k0::m.2,k∈k0::ks:=λk hk=>by
   rcases List.mem_cons.1 hk with rfl|hk
   ·simp
   ·exact List.mem_cons_of_mem _ (hmem k hk)
  have I:Inner ds g ⟨false,i,m.1,k0::m.2⟩:=by
   refine⟨by simp,rfl,by simp,by simpa using hi,λe=>he (List.eq_nil_of_length_eq_zero (by rw[<-hlen];simp at e;rw[e];rfl)),by simp[hlen],?_,λk hk=>hr k (hmem' k hk),λk hk=>hu k (hmem' k hk),hdiff⟩;show ascFrom (fAt ds (i:Nat)).lo (fAt ds (i:Nat)).hi m.1;unfold fAt;rw[Int.toNat_natCast];exact hasc
  obtain⟨M,hat⟩:=node_made h (n:=⟨false,i,m.1,k0::m.2⟩) (Or.inr I);refine⟨M,λc=> ?_,λ_=> ?_⟩
  ·rw[M.good.S_inner M.rng (by rw[hat];simp),hat];simp only[Int.toNat_natCast];rw[hp];refine M.S_old h (hr _ ?_) c;have hle:=nx_le rest (c.getD i 0);exact mem_getD (by simp only[List.length_cons];omega)
  ·rw[hat];exact Int.le_refl _
def insA:List Int->Int->List Int
 |[],n=>[n]
 |a::r,n=>if n<a then n::a::r else if n=a then a::r else a::insA r n
def ascOf(l:List Int):List Int:=l.foldl insA []
theorem insA_mem(l:List Int)(n v:Int):v∈insA l n↔v=n∨v∈l:=by
 induction l with
 |nil=>simp[insA]
 |cons a r ih=>
  unfold insA;split
  ·simp
  ·split
   ·rename_i h;subst h;simp
   ·simp only[List.mem_cons,ih];constructor
    ·rintro(h|h|h)<;>simp[h]
    ·rintro(h|h|h)<;>simp[h]
theorem insA_asc:∀{l:List Int}{lo hi n:Int},ascFrom lo hi l->lo<n->n≤hi->ascFrom lo hi (insA l n)
 |[],_,_,_,_,h1,h2=>⟨h1,h2,trivial⟩
 |a::r,lo,hi,n,h,h1,h2=>by
  unfold insA;split
  ·rename_i ha;exact⟨h1,h2,ha,h.2.1,h.2.2⟩
  ·split
   ·exact h
   ·exact⟨h.1,h.2.1,insA_asc h.2.2 (by omega) h2⟩
theorem foldl_insA_mem(l:List Int):∀(m:List Int)(v:Int),v∈l.foldl insA m↔v∈m∨v∈l:=by
 induction l with
 |nil=>intro m v;simp
 |cons a r ih=>
  intro m v;rw[List.foldl_cons,ih,insA_mem];simp only[List.mem_cons];constructor
  ·rintro((h|h)|h)
   ·exact Or.inr (Or.inl h)
   ·exact Or.inl h
   ·exact Or.inr (Or.inr h)
  ·rintro(h|h|h)
   ·exact Or.inl (Or.inr h)
   ·exact Or.inl (Or.inl h)
   ·exact Or.inr h
theorem foldl_insA_asc{lo hi:Int}:∀(l m:List Int),ascFrom lo hi m->(∀v∈l,lo<v∧v≤hi)->ascFrom lo hi (l.foldl insA m)
 |[],_,h,_=>h
 |a::r,m,h,hl=>foldl_insA_asc r _ (insA_asc h (hl a (by simp)).1 (hl a (by simp)).2) λv hv=>hl v (List.mem_cons_of_mem _ hv)
theorem ascOf_mem(l:List Int)(v:Int):v∈ascOf l↔v∈l:=by unfold ascOf;rw[foldl_insA_mem];simp
theorem ascOf_asc{lo hi:Int}{l:List Int}(h:∀v∈l,lo<v∧v≤hi):ascFrom lo hi (ascOf l):=foldl_insA_asc l [] trivial h
theorem nx_start_le:∀{l:List Int}{lo hi v:Int},ascFrom lo hi l->lo≤v->startAt lo l (nx l v)≤v
 |[],_,_,_,_,h=>by simpa[nx,startAt]using h
 |c::r,lo,hi,v,h,hv=>by
  unfold nx;split
  ·simpa[startAt]using hv
  ·have:=nx_start_le (l:=r) (lo:=c) (v:=v) h.2.2 (by omega);unfold startAt at this⊢;simp only[Nat.succ_ne_zero,if_false,Nat.add_sub_cancel];split at this
   ·rename_i h0;rw[h0];simpa using this
   ·rename_i h0;obtain⟨q,hq⟩:∃q,nx r v=q+1:=⟨nx r v-1,by omega⟩;rw[hq]at this⊢;simpa using this
theorem nx_start_gap:∀{l:List Int}{lo hi v x:Int},ascFrom lo hi l->x∈l->startAt lo l (nx l v)<x->v<x
 |[],_,_,_,_,_,h,_=>absurd h (by simp)
 |c::r,lo,hi,v,x,h,hx,hs=>by
  unfold nx at hs;by_cases hv:v<c
  ·rcases List.mem_cons.1 hx with rfl|hx
   ·exact hv
   ·have:=(asc_mem h.2.2 x hx).1;omega
  ·rw[if_neg hv]at hs
   have hs':startAt c r (nx r v)<x:=by
    unfold startAt at hs⊢;simp only[Nat.succ_ne_zero,if_false,Nat.add_sub_cancel]at hs;split
    ·rename_i h0;rw[h0]at hs;simpa using hs
    ·rename_i h0;obtain⟨q,hq⟩:∃q,nx r v=q+1:=⟨nx r v-1,by omega⟩;rw[hq]at hs⊢;simpa using hs
   rcases List.mem_cons.1 hx with rfl|hx
   ·have:=nx_start_le (l:=r) (lo:=x) (v:=v) h.2.2 (by omega);unfold startAt at hs';split at hs'
    ·omega
    ·exfalso;(have hlt:nx r v-1<r.length:=by have:=nx_le r v;omega);rw[List.getD_eq_getElem?_getD,List.getElem?_eq_getElem hlt]at hs';have:=(asc_mem h.2.2 _ (List.getElem_mem hlt)).1;simp at hs';omega
   ·exact nx_start_gap h.2.2 hx hs'
theorem nx_same{m:List Int}{v s:Int}(h1:s≤v)(h2:∀x∈m,s<x->v<x):nx m s=nx m v:=by
 induction m with
 |nil=>rfl
 |cons c r ih=>
  unfold nx;have hc:=h2 c (by simp);by_cases h:s<c
  ·rw[if_pos h,if_pos (hc h)]
  ·rw[if_neg h,if_neg (by omega),ih λx hx=>h2 x (List.mem_cons_of_mem _ hx)]
def kvI{κ:Type}[DecidableEq κ]:List (κ × Int)->κ->Option Int
 |[],_=>none
 |p::r,x=>if x=p.1 then some p.2 else kvI r x
def kvISet{κ:Type}[DecidableEq κ]:List (κ × Int)->κ->Int->List (κ × Int)
 |[],x,v=>[(x,v)]
 |p::r,x,v=>if x=p.1 then(p.1,v)::r else p::kvISet r x v
theorem kvI_mem{κ:Type}[DecidableEq κ]{x:κ}{v:Int}:∀{l:List (κ × Int)},kvI l x=some v->(x,v)∈l
 |[],h=>by simp[kvI]at h
 |p::r,h=>by
  unfold kvI at h;split at h
  ·rename_i e;injection h with h;subst h;subst e;simp
  ·exact List.mem_cons_of_mem _ (kvI_mem h)
theorem kvISet_mem{κ:Type}[DecidableEq κ]{x:κ}{v:Int}{p:κ × Int}:∀{l:List (κ × Int)},p∈kvISet l x v->p∈l∨p=(x,v)
 |[],h=>by simp[kvISet]at h;exact Or.inr h
 |q::r,h=>by
  unfold kvISet at h;split at h
  ·rename_i e;subst e;rcases List.mem_cons.1 h with h|h
   ·exact Or.inr h
   ·exact Or.inl (List.mem_cons_of_mem _ h)
  ·rcases List.mem_cons.1 h with h|h
   ·exact Or.inl (by simp[h])
   ·rcases kvISet_mem h with h|h
    ·exact Or.inl (List.mem_cons_of_mem _ h)
    ·exact Or.inr h
def askS(ds:List FactD)(n:NodeD):Int:=if n.kids=[]then ds.length else n.fact
def stepS(g:List NodeD)(at_ i v:Int):Int:=if(nAt g at_).kids ≠[]∧(nAt g at_).fact =i then(nAt g at_).kids.getD (nx (nAt g at_).cuts v) 0 else at_
structure ASt where
 all:List NodeD
 done:List ((Int × Int) × Int)
def mixS(ds:List FactD)(p q:NodeD):List Int:=
 (fAt ds (min (askS ds p) (askS ds q))).lo ::ascOf ((if askS ds p=min (askS ds p) (askS ds q)then p.cuts else[])++(if askS ds q=min (askS ds p) (askS ds q)then q.cuts else[]))
def kidsA{σ:Type}(f:Int->σ->Int × σ):List Int->σ->List Int × σ
 |[],st=>([],st)
 |v::l,st=>((f v st).1::(kidsA f l (f v st).2).1,(kidsA f l (f v st).2).2)
def bothS(ds:List FactD)(a b:List NodeD):Nat->Int->Int->ASt->Int × ASt
 |0,_,_,st=>(0,st)
 |k+1,x,y,st=>
  match kvI st.done (x,y)with
  |some r=>(r,st)
  |none=>
   if min (askS ds (nAt a x)) (askS ds (nAt b y))=ds.length∨4000<st.all.length then
    ((nodeS st.all ⟨(nAt a x).leaf &&(nAt b y).leaf,0,[],[]⟩).1,⟨(nodeS st.all ⟨(nAt a x).leaf &&(nAt b y).leaf,0,[],[]⟩).2,st.done⟩)
   else
    let i:=min (askS ds (nAt a x)) (askS ds (nAt b y));let r:=kidsA (λv st=>bothS ds a b k (stepS a x i v) (stepS b y i v) st) (mixS ds (nAt a x) (nAt b y)) st;let o:=innerS r.2.all i (mixS ds (nAt a x) (nAt b y)) r.1
    (o.1,⟨o.2,kvISet r.2.done (x,y) o.1⟩)
theorem node_pre(all:List NodeD)(n:NodeD):∃t,(nodeS all n).2=all++t:=by
 unfold nodeS;split
 ·exact⟨[],by simp⟩
 ·exact⟨[n],rfl⟩
theorem inner_pre(all:List NodeD)(i:Int)(s k:List Int):∃t,(innerS all i s k).2=all++t:=by
 unfold innerS;split
 ·exact⟨[],by simp⟩
 ·exact node_pre _ _
theorem pre_trans{g g' g'':List NodeD}(h:∃t,g'=g++t)(k:∃t,g''=g'++t):∃t,g''=g++t:=by
 obtain⟨t,rfl⟩:=h;obtain⟨u,rfl⟩:=k;exact⟨t++u,by simp⟩
theorem kidsA_pre{f:Int->ASt->Int × ASt}(h:∀v st,∃t,(f v st).2.all =st.all++t):∀(l:List Int)(st:ASt),∃t,(kidsA f l st).2.all =st.all++t
 |[],st=>⟨[],by simp[kidsA]⟩
 |v::l,st=>pre_trans (h v st) (kidsA_pre h l _)
theorem both_pre(ds:List FactD)(a b:List NodeD):∀(k:Nat)(x y:Int)(st:ASt),∃t,(bothS ds a b k x y st).2.all =st.all++t
 |0,_,_,st=>⟨[],by simp[bothS]⟩
 |k+1,x,y,st=>by
  unfold bothS;split
  ·exact⟨[],by simp⟩
  ·split
   ·exact node_pre _ _
   ·exact pre_trans (kidsA_pre (λv st=>both_pre ds a b k _ _ st) _ st) (inner_pre _ _ _ _)
theorem pre_le{g g':List NodeD}(h:∃t,g'=g++t):g.length≤g'.length:=by obtain⟨t,rfl⟩:=h;simp
theorem subset_length:∀{α:Type}[DecidableEq α](l m:List α),l.Nodup->(∀x∈l,x∈m)->l.length≤m.length
 | _,_,[],_,_,_=>Nat.zero_le _
 | _,_,a::l,m,hn,h=>by
  have hn':=List.nodup_cons.1 hn
  have h1:=subset_length l (m.erase a) hn'.2 λx hx=>by
   (have hne:x≠a:=λe=>hn'.1 (e▸hx));exact(List.mem_erase_of_ne hne).2 (h x (List.mem_cons_of_mem _ hx))
  have h2:=List.length_erase_of_mem (h a (by simp));have h3:=List.length_pos_of_mem (h a (by simp));simp only[List.length_cons];omega
section both
variable {ds:List FactD} {a b:List NodeD}
def Closed(ds:List FactD)(a b:List NodeD)(P:List (Int × Int)):Prop:=
 ∀p∈P,Rng a p.1∧Rng b p.2∧∀v,(stepS a p.1 (min (askS ds (nAt a p.1)) (askS ds (nAt b p.2))) v,stepS b p.2 (min (askS ds (nAt a p.1)) (askS ds (nAt b p.2))) v)∈P
structure For (ds:List FactD) (a b all:List NodeD) (x y r:Int):Prop where
 rng:Rng all r
 says:∀c,Fit ds c->S ds all r c=(S ds a x c&&S ds b y c)
 low:(nAt all r).kids ≠[]->min (askS ds (nAt a x)) (askS ds (nAt b y))≤(nAt all r).fact
theorem For.app{all all':List NodeD}{x y r:Int}(h:For ds a b all x y r)(hg:Good ds all)(hg':Good ds all')(hp:∃t,all'=all++t):For ds a b all' x y r:=by
 obtain⟨t,rfl⟩:=hp;exact⟨h.rng.app t,λc hc=>by rw[S_app' hg hg' h.rng];exact h.says c hc,by rw[nAt_app h.rng];exact h.low⟩
structure AInv (ds:List FactD) (a b:List NodeD) (P:List (Int × Int)) (st:ASt):Prop where
 good:Good ds st.all
 done:∀p∈st.done,For ds a b st.all p.1.1 p.1.2 p.2
 from_:∀j,Rng st.all j->∃p∈P,∀c,Fit ds c->S ds st.all j c=(S ds a p.1 c&&S ds b p.2 c)
theorem AInv.length_le{P:List (Int × Int)}{st:ASt}(hl:LoHi ds)(h:AInv ds a b P st):st.all.length≤P.length:=by
 have hc:∀j:Nat,∃p:Int × Int,j<st.all.length->p∈P∧∀c,Fit ds c->S ds st.all j c=(S ds a p.1 c&&S ds b p.2 c):=λj=>by
  by_cases hj:j<st.all.length
  ·obtain⟨p,hp,e⟩:=h.from_ j ⟨by omega,by omega⟩;exact⟨p,λ_=>⟨hp,e⟩⟩
  ·exact⟨(0,0),λh=>absurd h hj⟩
 obtain⟨f,hf⟩:=Classical.axiomOfChoice hc
 have:=subset_length ((List.range st.all.length).map f) P (by
  show List.Pairwise (· ≠ ·) _;rw[List.pairwise_map];refine List.Pairwise.imp_of_mem (R:=(· ≠ ·)) (λ{i j} hi hj hne e=>hne ?_) List.nodup_range;rw[List.mem_range]at hi hj
  have:=h.good.uniq hl (a:=(i:Int)) (b:=(j:Int)) ⟨by omega,by omega⟩ ⟨by omega,by omega⟩ λc hc=>by
   rw[(hf i hi).2 c hc,(hf j hj).2 c hc,e]
  omega) (λp hp=>by
  obtain⟨j,hj,rfl⟩:=List.mem_map.1 hp
  exact(hf j (List.mem_range.1 hj)).1)
 simpa using this
theorem ask_step(hg:Good ds a){x i v:Int}(hx:Rng a x)(hi:i≤askS ds (nAt a x))(hid:i<ds.length):Rng a (stepS a x i v)∧i<askS ds (nAt a (stepS a x i v)):=by
 unfold stepS;by_cases h:(nAt a x).kids ≠[]∧(nAt a x).fact =i
 ·rw[if_pos h];have I:=hg.inner hx h.1;have hm:=I.kid_rng v;refine⟨I.rng _ hm,?_⟩;unfold askS;split
  ·exact hid
  ·rename_i hk;have:=I.up _ hm hk;rw[<-h.2];exact this
 ·rw[if_neg h];refine⟨hx,?_⟩;unfold askS at hi⊢;split
  ·exact hid
  ·rename_i hk;rw[if_neg hk]at hi;(have:(nAt a x).fact ≠i:=λe=>h ⟨hk,e⟩);omega
theorem S_step(hg:Good ds a){x i:Int}{s:Int}(hx:Rng a x)(c:List Int)(_h0:0≤i)
  (hs:(nAt a x).kids ≠[]->(nAt a x).fact =i->nx (nAt a x).cuts s=nx (nAt a x).cuts (c.getD i.toNat 0)):S ds a (stepS a x i s) c=S ds a x c:=by
 unfold stepS;by_cases h:(nAt a x).kids ≠[]∧(nAt a x).fact =i
 ·rw[if_pos h,hg.S_inner hx h.1,h.2,hs h.1 h.2]
 ·rw[if_neg h]
theorem ask_rng(hg:Good ds a){x:Int}(hx:Rng a x):0≤askS ds (nAt a x)∧askS ds (nAt a x)≤ds.length:=by
 unfold askS;split
 ·omega
 ·rename_i hk;have I:=hg.inner hx hk;have:=I.f0;have:=I.f1;omega
theorem kidsA_length{σ:Type}{f:Int->σ->Int × σ}:∀(l:List Int)(st:σ),(kidsA f l st).1.length =l.length
 |[],_=>rfl
 |v::l,st=>by simp[kidsA,kidsA_length l]
theorem both_spec(hl:LoHi ds)(ha:Good ds a)(hb:Good ds b){P:List (Int × Int)}(hP:Closed ds a b P):∀(k:Nat)(x y:Int)(st:ASt),(x,y)∈P->
  ds.length-(min (askS ds (nAt a x)) (askS ds (nAt b y))).toNat <k->AInv ds a b P st->(P.length≤4000∨(bothS ds a b k x y st).2.all.length ≤4000)->
  AInv ds a b P (bothS ds a b k x y st).2∧For ds a b (bothS ds a b k x y st).2.all x y (bothS ds a b k x y st).1
 |0,_,_,_,_,h,_,_=>by omega
 |k+1,x,y,st,hxy,hk,hst,hsz=>by
  have hpre:=both_pre ds a b (k+1) x y st;have hle:=pre_le hpre;obtain⟨hx,hy,hcl⟩:=hP _ hxy;simp only at hx hy hcl;have ax:=ask_rng ha hx;have ay:=ask_rng hb hy
  have hns:st.all.length≤4000:=by
   rcases hsz with h|h
   ·exact Nat.le_trans (hst.length_le hl) h
   ·exact Nat.le_trans hle h
  unfold bothS at hsz⊢
  cases hkv:kvI st.done (x,y)with
  |some r=>
   simp only[hkv]at hsz⊢;exact⟨hst,hst.done _ (kvI_mem hkv)⟩
  |none=>
   simp only[hkv]at hsz⊢;by_cases hend:min (askS ds (nAt a x)) (askS ds (nAt b y))=ds.length∨4000<st.all.length
   ·simp only[if_pos hend]at hsz⊢
    have hend':min (askS ds (nAt a x)) (askS ds (nAt b y))=ds.length:=by
     rcases hend with h|h
     ·exact h
     ·omega
    have kx:(nAt a x).kids =[]:=by
     by_cases h:(nAt a x).kids =[]
     ·exact h
     ·have I:=ha.inner hx h;have:=I.f1;unfold askS at hend';rw[if_neg h]at hend';omega
    have ky:(nAt b y).kids =[]:=by
     by_cases h:(nAt b y).kids =[]
     ·exact h
     ·have I:=hb.inner hy h;have:=I.f1;unfold askS at hend';rw[if_neg h]at hend';omega
    obtain⟨M,hat⟩:=node_made hst.good (n:=⟨(nAt a x).leaf &&(nAt b y).leaf,0,[],[]⟩) (Or.inl ⟨rfl,rfl,rfl⟩);have hnew:=node_pre st.all ⟨(nAt a x).leaf &&(nAt b y).leaf,0,[],[]⟩
    have hlen:∀j,Rng (nodeS st.all ⟨(nAt a x).leaf &&(nAt b y).leaf,0,[],[]⟩).2 j->Rng st.all j∨j=(nodeS st.all ⟨(nAt a x).leaf &&(nAt b y).leaf,0,[],[]⟩).1:=by
     intro j hj;unfold nodeS at hj⊢;split at hj
     ·exact Or.inl hj
     ·rename_i hm;rw[if_neg hm];have h0:=hj.1;have h1:=hj.2;simp at h1;by_cases e:j=(st.all.length:Nat)
      ·exact Or.inr e
      ·exact Or.inl ⟨h0,by omega⟩
    generalize nodeS st.all ⟨(nAt a x).leaf &&(nAt b y).leaf,0,[],[]⟩=r at*;have hF:For ds a b r.2 x y r.1:=⟨M.rng,λc _=>by rw[M.good.S_leaf (by rw[hat]),hat,ha.S_leaf kx,hb.S_leaf ky],λh=>absurd (by rw[hat]) h⟩;refine⟨⟨M.good,λp hp=>(hst.done p hp).app hst.good M.good M.pre,λj hj=> ?_⟩,hF⟩;rcases hlen j hj with h|h
    ·obtain⟨p,hp,e⟩:=hst.from_ j h;exact⟨p,hp,λc hc=>by rw[M.S_old hst.good h];exact e c hc⟩
    ·subst h;exact⟨_,hxy,hF.says⟩
   ·simp only[if_neg hend]at hsz⊢;have hi:min (askS ds (nAt a x)) (askS ds (nAt b y))<ds.length:=by omega
    have hmix:∃rest,mixS ds (nAt a x) (nAt b y)=(fAt ds (min (askS ds (nAt a x)) (askS ds (nAt b y)))).lo ::rest∧ascFrom (fAt ds (min (askS ds (nAt a x)) (askS ds (nAt b y)))).lo (fAt ds (min (askS ds (nAt a x)) (askS ds (nAt b y)))).hi rest∧
      ((nAt a x).kids ≠[]->(nAt a x).fact =min (askS ds (nAt a x)) (askS ds (nAt b y))->∀v∈(nAt a x).cuts,v∈rest)∧((nAt b y).kids ≠[]->(nAt b y).fact =min (askS ds (nAt a x)) (askS ds (nAt b y))->∀v∈(nAt b y).cuts,v∈rest):=by
     refine⟨_,rfl,ascOf_asc λv hv=> ?_,λh1 h2 v hv=> ?_,λh1 h2 v hv=> ?_⟩
     ·rcases List.mem_append.1 hv with hv|hv
      ·split at hv
       ·rename_i e;rcases ha.proper _ (nAt_mem hx)with h|h
        ·rw[h.2.2]at hv;simp at hv
        ·(have:askS ds (nAt a x)=(nAt a x).fact :=by unfold askS;rw[if_neg h.ne]);rw[<-e,this];exact asc_mem h.asc v hv
       ·simp at hv
      ·split at hv
       ·rename_i e;rcases hb.proper _ (nAt_mem hy)with h|h
        ·rw[h.2.2]at hv;simp at hv
        ·(have:askS ds (nAt b y)=(nAt b y).fact :=by unfold askS;rw[if_neg h.ne]);rw[<-e,this];exact asc_mem h.asc v hv
       ·simp at hv
     ·rw[ascOf_mem,List.mem_append];left;rw[if_pos (by rw[<-h2];unfold askS;rw[if_neg h1])];exact hv
     ·rw[ascOf_mem,List.mem_append];right;rw[if_pos (by rw[<-h2];unfold askS;rw[if_neg h1])];exact hv
    obtain⟨rest,hmx,hasc,hca,hcb⟩:=hmix;(have hi0:0≤min (askS ds (nAt a x)) (askS ds (nAt b y)):=by omega);(have hia:min (askS ds (nAt a x)) (askS ds (nAt b y))≤askS ds (nAt a x):=by omega);(have hib:min (askS ds (nAt a x)) (askS ds (nAt b y))≤askS ds (nAt b y):=by omega);generalize hmi:min (askS ds (nAt a x)) (askS ds (nAt b y))=i at*
    have hkid:∀(l:List Int)(st:ASt),AInv ds a b P st->(P.length≤4000∨(kidsA (λv st=>bothS ds a b k (stepS a x i v) (stepS b y i v) st) l st).2.all.length ≤4000)->
      AInv ds a b P (kidsA (λv st=>bothS ds a b k (stepS a x i v) (stepS b y i v) st) l st).2∧
      ∀j,j<l.length->For ds a b (kidsA (λv st=>bothS ds a b k (stepS a x i v) (stepS b y i v) st) l st).2.all (stepS a x i (l.getD j 0)) (stepS b y i (l.getD j 0)) ((kidsA (λv st=>bothS ds a b k (stepS a x i v) (stepS b y i v) st) l st).1.getD j 0):=by
     intro l
     induction l with
     |nil=>intro st hst _;exact⟨hst,λj hj=>absurd hj (by simp)⟩
     |cons v l ih=>
      intro st hst hsz;have sx:=ask_step ha (v:=v) hx hia hi;have sy:=ask_step hb (v:=v) hy hib hi;have hp1:=kidsA_pre (f:=λv st=>bothS ds a b k (stepS a x i v) (stepS b y i v) st) (λv st=>both_pre ds a b k _ _ st) l (bothS ds a b k (stepS a x i v) (stepS b y i v) st).2;have hle:=pre_le hp1;obtain⟨A1,F1⟩:=both_spec hl ha hb hP k (stepS a x i v) (stepS b y i v) st (hcl v) (by omega) hst (hsz.imp id λh=>Nat.le_trans hle h);obtain⟨A2,F2⟩:=ih _ A1 hsz;refine⟨A2,λj hj=> ?_⟩
      cases j with
      |zero=>exact F1.app A1.good A2.good hp1
      |succ j=>exact F2 j (by simpa using hj)
    have hp2:=inner_pre (kidsA (λv st=>bothS ds a b k (stepS a x i v) (stepS b y i v) st) (mixS ds (nAt a x) (nAt b y)) st).2.all i (mixS ds (nAt a x) (nAt b y)) (kidsA (λv st=>bothS ds a b k (stepS a x i v) (stepS b y i v) st) (mixS ds (nAt a x) (nAt b y)) st).1;obtain⟨A1,F1⟩:=hkid (mixS ds (nAt a x) (nAt b y)) st hst (hsz.imp id λh=>Nat.le_trans (pre_le hp2) h);have hlk:=kidsA_length (f:=λv st=>bothS ds a b k (stepS a x i v) (stepS b y i v) st) (mixS ds (nAt a x) (nAt b y)) st;rw[hmx]at A1 F1 hlk⊢;generalize kidsA (λv st=>bothS ds a b k (stepS a x i v) (stepS b y i v) st) ((fAt ds i).lo ::rest) st=r at*;obtain⟨kids,st'⟩:=r;simp only at A1 F1 hlk⊢
    cases kids with
    |nil=>simp at hlk
    |cons k0 ks=>
     (have hlk':rest.length=ks.length:=by simpa using hlk.symm);obtain⟨n,hn⟩:=Int.eq_ofNat_of_zero_le hi0;subst hn;have hn:n<ds.length:=by omega
     have hF1:∀q∈k0::ks,∃j,j<((fAt ds (n:Int)).lo ::rest).length ∧q=(k0::ks).getD j 0:=λq hq=>by
      obtain⟨j,hj,rfl⟩:=List.getElem_of_mem hq;exact⟨j,by simp only[List.length_cons]at hj⊢;omega,by rw[List.getD_eq_getElem?_getD,List.getElem?_eq_getElem hj];rfl⟩
     have hfa:fAt ds (n:Int)=ds.getD n noFact:=by unfold fAt;rw[Int.toNat_natCast]
     obtain⟨M,hS,hlow⟩:=inner_made A1.good hn hlk' (by rw[<-hfa];exact hasc) (λq hq=>by obtain⟨j,hj,rfl⟩:=hF1 q hq;exact(F1 j hj).rng) (λq hq hqk=>by
      obtain⟨j,hj,rfl⟩:=hF1 q hq;have:=(F1 j hj).low hqk;have sx:=ask_step ha (v:=((fAt ds (n:Int)).lo ::rest).getD j 0) hx hia hi;have sy:=ask_step hb (v:=((fAt ds (n:Int)).lo ::rest).getD j 0) hy hib hi
      omega)
     rw[hfa]
     have hlen:∀j,Rng (innerS st'.all n ((ds.getD n noFact).lo ::rest) (k0::ks)).2 j->Rng st'.all j∨j=(innerS st'.all n ((ds.getD n noFact).lo ::rest) (k0::ks)).1:=by
      intro j hj;unfold innerS nodeS at hj⊢;split at hj
      ·exact Or.inl hj
      ·rename_i hm;rw[if_neg hm];split at hj
       ·exact Or.inl hj
       ·rename_i hm2;rw[if_neg hm2];have h0:=hj.1;have h1:=hj.2;simp at h1;by_cases e:j=(st'.all.length:Nat)
        ·exact Or.inr e
        ·exact Or.inl ⟨h0,by omega⟩
     generalize innerS st'.all n ((ds.getD n noFact).lo ::rest) (k0::ks)=o at*
     have hF:For ds a b o.2 x y o.1:=by
      refine⟨M.rng,λc hc=> ?_,λh=> ?_⟩
      ·rw[hS c];have hle:=nx_le rest (c.getD n 0);rw[(F1 (nx rest (c.getD n 0)) (by simp only[List.length_cons];omega)).says c hc];have hfit:=hc.2 n hn
       have e:((fAt ds (n:Int)).lo ::rest).getD (nx rest (c.getD n 0)) 0=startAt (fAt ds (n:Int)).lo rest (nx rest (c.getD n 0)):=by
        unfold startAt;split
        ·rename_i h0;rw[h0];rfl
        ·rename_i h0;obtain⟨q,hq⟩:∃q,nx rest (c.getD n 0)=q+1:=⟨nx rest (c.getD n 0)-1,by omega⟩;rw[hq];simp
       have s1:=nx_start_le (v:=c.getD n 0) hasc (by rw[hfa];exact hfit.1);(have s2:=λx hx=>nx_start_gap (v:=c.getD n 0) (x:=x) hasc hx);rw[e];rw[S_step ha hx c (by omega) (λh1 h2=>nx_same s1 λz hz=>s2 z (hca h1 h2 z hz)),S_step hb hy c (by omega) (λh1 h2=>nx_same s1 λz hz=>s2 z (hcb h1 h2 z hz))]
      ·have:=hlow h;omega
     refine⟨⟨M.good,λp hp=> ?_,λj hj=> ?_⟩,hF⟩
     ·rcases kvISet_mem hp with hp|hp
      ·exact(A1.done p hp).app A1.good M.good M.pre
      ·subst hp;exact hF
     ·rcases hlen j hj with h|h
      ·obtain⟨p,hp,e⟩:=A1.from_ j h;exact⟨p,hp,λc hc=>by rw[M.S_old A1.good h];exact e c hc⟩
      ·subst h;exact⟨_,hxy,hF.says⟩
end both
section pair
variable {P:Program} {k e:TypeId}
theorem run_equal_pair(hk:P.underlying k=some (.array 2 e))(he:P.underlying e=some (.int .i64)){i:TypeInfo}(hi:P.info? e=some i)(hc:P.cellsOf e=1)(w:World)(x y:Int × Int):
  (Op.equal k (encP x) (encP y)).run P w= .ok (decide (x=y)) w:=by
 have hp:P.plainKey e=true:=by simp[Program.plainKey,he]
 have h0:∀(d:Nat)(a b:Int),(Op.equalIn (d+1) e (.int .i64 a) (.int .i64 b)).run P w= .ok (a==b) w:=λd a b=>by
  simp[Op.equalIn,run_underlying he]
 have h1:∀(a b:Int),(Op.equalIn 9999 e (.int .i64 a) (.int .i64 b)).run P w= .ok (a==b) w:=h0 9998;have p0:∀(a b:Int),(part e #[.int .i64 a,.int .i64 b] 0).run P w= .ok (.int .i64 a) w:=λa b=>run_part_plain w hp rfl
 have p1:∀(a b:Int),(part e #[.int .i64 a,.int .i64 b] 1).run P w= .ok (.int .i64 b) w:=λa b=>run_part_plain w hp rfl
 unfold Op.equal encP;rw[show Op.maxDepth=9999+1 from rfl,run_equalIn_array w 9999 _ _ hk hi,hc,show List.range 2=[0,1] from rfl];simp only[Op.eqItems,Sem.run_bind,Nat.zero_mul,Nat.one_mul,p0,Result.andThen_ok,h1];by_cases a:x.1=y.1<;>by_cases b:x.2=y.2<;>simp[a,b,Prod.ext_iff,p1,h1]
theorem keyOk_pair(hk:P.underlying k=some (.array 2 e))(he:P.underlying e=some (.int .i64)){i:TypeInfo}(hi:P.info? e=some i)(hc:P.cellsOf e=1)
  (hchk:∀(w:World)(em:Bool)(x:Int × Int),(Instr.checkKey em 10000 k (encP x)).run P w= .ok () w):KeyOk P k encP where
 check:=hchk
 find w x es kv h:=by
  have ask:∀(es:List MapEntry)(kv:List ((Int × Int) × Value))(j:Nat),es.map (λe=>(e.key,e.val))=kv.map (λp=>(encP p.1,p.2))->(Instr.findAsking k (encP x) es j).run P w= .ok (kvFind kv x j) w:=by
   intro es
   induction es with
   |nil=>intro kv j h;cases kv with
    |nil=>simp[Instr.findAsking,kvFind]
    |cons p kv=>simp at h
   |cons e' es ih=>intro kv j h;cases kv with
    |nil=>simp at h
    |cons p kv=>
     simp only[List.map_cons,List.cons.injEq,Prod.mk.injEq]at h;obtain⟨⟨h1,h2⟩,h3⟩:=h;have h4:=run_equal_pair hk he hi hc w x p.1;unfold Instr.findAsking kvFind;rw[h1];simp only[Sem.run_bind,h4,Result.andThen_ok];by_cases hx:x=p.1
     ·simp[hx,h2]
     ·simp[hx,ih kv (j+1) h3]
  cases es with
  |nil=>
   cases kv with
   |nil=>simp[Instr.findKey,run_underlying hk,Instr.findNow,kvFind]
   |cons p kv=>simp at h
  |cons e' es=>
   have h0:=h
   cases kv with
   |nil=>simp at h
   |cons p kv=>
    simp only[List.map_cons,List.cons.injEq,Prod.mk.injEq]at h
    have hn:Instr.findNow (.array 2 e) (encP x) (e'::es) 0=none:=by
     unfold Instr.findNow;rw[h.1.1];simp[Instr.sameNow]
    simp only[Instr.findKey,Sem.run_bind,run_underlying hk,Result.andThen_ok,hn];exact ask _ _ 0 h0
 stays w x:=by simp[Instr.keyThatStays,encP,Instr.sameBits]
end pair
def kvA(d:List ((Int × Int) × Int)):List ((Int × Int) × Value):=d.map λp=>(p.1,.int .i64 p.2)
theorem kvA_get:∀(d:List ((Int × Int) × Int))(k:Int × Int),kvGet (kvA d) k=(kvI d k).map (.int .i64)
 |[],_=>rfl
 |p::r,k=>by
  have ih:=kvA_get r k;unfold kvA at ih⊢;rw[List.map_cons,kvGet,kvI];split
  ·rfl
  ·exact ih
theorem kvA_set:∀(d:List ((Int × Int) × Int))(k:Int × Int)(v:Int),kvSet (kvA d) k (.int .i64 v)=kvA (kvISet d k v)
 |[],_,_=>rfl
 |p::r,k,v=>by
  have ih:=kvA_set r k v;unfold kvA at ih⊢;rw[List.map_cons,kvSet,kvISet];split
  ·rfl
  ·rw[List.map_cons,<-ih]
end Go.Proofs.YtimmfbnjndndlaaGreatDoor
