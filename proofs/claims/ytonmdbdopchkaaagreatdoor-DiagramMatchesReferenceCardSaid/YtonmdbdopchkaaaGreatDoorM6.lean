/- Texts C CV CM. -/
import Derived.Test.YtonmdbdopchkaaaGreatDoorM2
set_option linter.all false
namespace Go.Proofs.YtonmdbdopchkaaaGreatDoor
open Go.RowKit
def zBO:zB:=⟨false,0,[],[]⟩
def nAt(g:List zB)(i:Int):zB:=g.getD i.toNat zBO
def Rng(g:List zB)(i:Int):Prop:=0≤i∧i<g.length
def zAA:zC:=⟨⟨#[]⟩,0,0,0⟩
def fAt(ds:List zC)(i:Int):zC:=ds.getD i.toNat zAA
def zk(lo hi:Int):List Int->Prop
 |[]=>True
 |c::r=>lo<c∧c≤hi∧zk c hi r
structure zD5 (ds:List zC) (g:List zB) (n:zB):Prop where
 ne:n.kids≠[]
 leaf:n.leaf=false
 f0:0≤n.fact
 f1:n.fact<ds.length
 cuts:n.cuts≠[]
 len:n.kids.length=n.cuts.length+1
 asc:zk (fAt ds n.fact).lo (fAt ds n.fact).hi n.cuts
 rng:∀k∈n.kids,Rng g k
 up:∀k∈n.kids,(nAt g k).kids ≠[]->n.fact<(nAt g k).fact
 diff:∀j,j+1<n.kids.length->n.kids.getD j 0≠n.kids.getD (j+1) 0
def zVh(n:zB):Prop:=n.kids=[]∧n.fact=0∧n.cuts=[]
def zFW(ds:List zC)(g:List zB)(n:zB):Prop:=zVh n∨zD5 ds g n
structure Good (ds:List zC) (g:List zB):Prop where
 proper:∀n∈g,zFW ds g n
 nodup:g.Nodup
theorem zDz{g:List zB}{i:Int}(h:Rng g i):nAt g i∈g:=by
 obtain⟨h0,h1⟩:=h;have:i.toNat<g.length:=by omega
 unfold nAt;rw[List.getD_eq_getElem?_getD,List.getElem?_eq_getElem this];exact List.getElem_mem this
theorem zAI{g:List zB}{i:Nat}(h:i<g.length):nAt g i=g[i]:=by
 unfold nAt;rw[List.getD_eq_getElem?_getD,Int.toNat_natCast,List.getElem?_eq_getElem h];rfl
theorem zKM{g:List zB}(h:g.Nodup){i j:Int}(hi:Rng g i)(hj:Rng g j)(e:nAt g i=nAt g j):i=j:=by
 obtain⟨a,rfl⟩:=Int.eq_ofNat_of_zero_le hi.1;obtain⟨b,rfl⟩:=Int.eq_ofNat_of_zero_le hj.1;have ha:a<g.length:=by have:=hi.2;omega
 have hb:b<g.length:=by have:=hj.2;omega
 rw[zAI ha,zAI hb]at e;have:=(List.getElem_inj h).1 e;rw[this]
def nx:List Int->Int->Nat
 |[],_=>0
 |c::r,v=>if v<c then 0 else nx r v+1
theorem zCs(l:List Int)(v:Int):nx l v≤l.length:=by
 induction l with
 |nil=>exact Nat.le_refl _
 |cons c r ih=>unfold nx;split<;>simp<;>omega
theorem zOV{lo hi:Int}{l:List Int}(h:zk lo hi l){v:Int}(hv:v≤lo):nx l v=0:=by
 cases l with
 |nil=>rfl
 |cons c r=>unfold nx;rw[if_pos (by have:=h.1;omega)]
theorem zOW{lo lo' hi:Int}{l:List Int}(h:zk lo hi l)(hl:lo'≤lo):zk lo' hi l:=by
 cases l with
 |nil=>trivial
 |cons c r=>exact⟨by have:=h.1;omega,h.2.1,h.2.2⟩
theorem zA3{lo hi:Int}:∀{l:List Int},zk lo hi l->∀c∈l,lo<c∧c≤hi
 |[],_,_,h=>absurd h (by simp)
 |c::r,h,x,hx=>by
  rcases List.mem_cons.1 hx with rfl|hx
  ·exact⟨h.1,h.2.1⟩
  ·have:=zA3 (zOW h.2.2 (Int.le_of_lt h.1)) x hx;exact this
theorem zSP:∀{lo hi:Int}{l:List Int}{v:Int},zk lo hi l->v∈l->nx l v=nx l (v-1)+1
 | _,_,[],_,_,h=>absurd h (by simp)
 |lo,hi,c::r,v,ha,h=>by
  unfold nx;rcases List.mem_cons.1 h with rfl|h
  ·rw[if_neg (by omega),if_pos (by omega),zOV ha.2.2 (Int.le_refl _)]
  ·have hc:=(zA3 ha.2.2 v h).1;rw[if_neg (by omega),if_neg (by omega),zSP ha.2.2 h]
theorem zUo{l:List Int}{v:Int}(h:v∉l):nx l v=nx l (v-1):=by
 induction l with
 |nil=>rfl
 |cons c r ih=>
  simp only[List.mem_cons,not_or]at h;unfold nx;by_cases h1:v<c
  ·rw[if_pos h1,if_pos (by omega)]
  ·rw[if_neg h1,if_neg (by omega),ih h.2]
theorem zJQ:∀{lo hi:Int}{l m:List Int},zk lo hi l->zk lo hi m->(∀v,v∈l↔v∈m)->l=m
 | _,_,[],[],_,_,_=>rfl
 | _,_,[],c::r,_,_,h=>absurd ((h c).2 (by simp)) (by simp)
 | _,_,c::r,[],_,_,h=>absurd ((h c).1 (by simp)) (by simp)
 |lo,hi,c::r,d::s,h1,h2,h=>by
  have e:c=d:=by
   rcases List.mem_cons.1 ((h c).1 (by simp))with e|e
   ·exact e
   ·rcases List.mem_cons.1 ((h d).2 (by simp))with e'|e'
    ·exact e'.symm
    ·have a:=(zA3 h1.2.2 d e').1;have b:=(zA3 h2.2.2 c e).1;omega
  subst e;rw[zJQ h1.2.2 h2.2.2 (λv=> ?_)];constructor
  ·intro hv;have:=(zA3 h1.2.2 v hv).1;rcases List.mem_cons.1 ((h v).1 (List.mem_cons_of_mem _ hv))with e|e
   ·omega
   ·exact e
  ·intro hv;have:=(zA3 h2.2.2 v hv).1;rcases List.mem_cons.1 ((h v).2 (List.mem_cons_of_mem _ hv))with e|e
   ·omega
   ·exact e
def zn(lo:Int)(l:List Int)(j:Nat):Int:=if j=0 then lo else l.getD (j-1) 0
theorem zFH{hi:Int}:∀{lo:Int}{l:List Int}{j:Nat},zk lo hi l->j≤l.length->nx l (zn lo l j)=j
 |lo,l,0,h,_=>by simp[zn,zOV h (Int.le_refl _)]
 |lo,[],j+1,h,hj=>by simp at hj
 |lo,c::r,j+1,h,hj=>by
  have hj':j≤r.length:=by simpa using hj
  have:=zFH h.2.2 hj'
  have hc:c≤zn c r j:=by
   unfold zn;split
   ·exact Int.le_refl _
   ·(have hlt:j-1<r.length:=by omega);rw[List.getD_eq_getElem?_getD,List.getElem?_eq_getElem hlt];have:=(zA3 h.2.2 _ (List.getElem_mem hlt)).1;exact Int.le_of_lt this
  have e:zn lo (c::r) (j+1)=zn c r j:=by
   unfold zn
   cases j with
   |zero=>simp
   |succ j=>simp
  rw[e];unfold nx;rw[if_neg (by omega),this]
theorem zIr{lo hi:Int}{l:List Int}{j:Nat}(h:zk lo hi l)(hl:lo≤hi)(hj:j≤l.length):lo≤zn lo l j∧zn lo l j≤hi:=by
 unfold zn;split
 ·exact⟨Int.le_refl _,hl⟩
 ·have hlt:j-1<l.length:=by omega
  rw[List.getD_eq_getElem?_getD,List.getElem?_eq_getElem hlt];have:=zA3 h _ (List.getElem_mem hlt);exact⟨Int.le_of_lt this.1,this.2⟩
def sem(g:List zB):Nat->Int->List Int->Bool
 |0,_,_=>false
 |k+1,i,c=>if(nAt g i).kids =[]then(nAt g i).leaf else sem g k ((nAt g i).kids.getD (nx (nAt g i).cuts (c.getD (nAt g i).fact.toNat 0)) 0) c
def zBr(ds:List zC)(g:List zB)(i:Int):Nat:=if(nAt g i).kids =[]then 0 else ds.length-(nAt g i).fact.toNat
def S(ds:List zC)(g:List zB)(i:Int)(c:List Int):Bool:=sem g (ds.length+1) i c
section good
variable {ds:List zC} {g:List zB}
theorem Good.inner(h:Good ds g){i:Int}(hi:Rng g i)(hk:(nAt g i).kids ≠[]):zD5 ds g (nAt g i):=by
 rcases h.proper _ (zDz hi)with h|h
 ·exact absurd h.1 hk
 ·exact h
theorem zD5.kid_rng{n:zB}(h:zD5 ds g n)(v:Int):n.kids.getD (nx n.cuts v) 0∈n.kids:=by
 have h1:=zCs n.cuts v;have h2:=h.len;have hlt:nx n.cuts v<n.kids.length:=by omega
 rw[List.getD_eq_getElem?_getD,List.getElem?_eq_getElem hlt];exact List.getElem_mem hlt
theorem zCG(i:Int):zBr ds g i≤ds.length:=by unfold zBr;split<;>omega
theorem Good.rank_kid(h:Good ds g){i:Int}(hi:Rng g i){k:Int}(hk:k∈(nAt g i).kids):Rng g k∧zBr ds g k<zBr ds g i:=by
 have hne:(nAt g i).kids ≠[]:=by intro e;rw[e]at hk;simp at hk
 have I:=h.inner hi hne;refine⟨I.rng k hk,?_⟩;have u:=I.up k hk;have f0:=I.f0;have f1:=I.f1;unfold zBr;rw[if_neg hne];split
 ·omega
 ·rename_i hkk;have:=u hkk;have I2:=h.inner (I.rng k hk) hkk;have:=I2.f1;omega
theorem Good.sem_fuel(h:Good ds g):∀(k k':Nat)(i:Int)(c:List Int),Rng g i->zBr ds g i<k->zBr ds g i<k'->sem g k i c=sem g k' i c
 |0,_,_,_,_,h1,_=>by omega
 | _+1,0,_,_,_,_,h2=>by omega
 |k+1,k'+1,i,c,hi,h1,h2=>by
  unfold sem;split
  ·rfl
  ·rename_i hne;have hm:=(h.inner hi hne).kid_rng (c.getD (nAt g i).fact.toNat 0);have:=h.rank_kid hi hm;exact h.sem_fuel k k' _ c this.1 (by omega) (by omega)
theorem Good.S_leaf(_h:Good ds g){i:Int}(hk:(nAt g i).kids =[])(c:List Int):S ds g i c=(nAt g i).leaf :=by
 unfold S sem;rw[if_pos hk]
theorem Good.S_inner(h:Good ds g){i:Int}(hi:Rng g i)(hk:(nAt g i).kids ≠[])(c:List Int):
  S ds g i c=S ds g ((nAt g i).kids.getD (nx (nAt g i).cuts (c.getD (nAt g i).fact.toNat 0)) 0) c:=by
 have hm:=(h.inner hi hk).kid_rng (c.getD (nAt g i).fact.toNat 0);have:=h.rank_kid hi hm;have hr:=zCG (ds:=ds) (g:=g) i
 conv=>lhs;unfold S sem
 rw[if_neg hk];exact h.sem_fuel _ _ _ c this.1 (by omega) (by omega)
theorem Good.S_indep(h:Good ds g):∀(r:Nat)(i:Int),zBr ds g i≤r->Rng g i->∀(lo:Nat)(c c':List Int),((nAt g i).kids ≠[]->(lo:Int)≤(nAt g i).fact)->(∀j,lo≤j->c.getD j 0=c'.getD j 0)->S ds g i c=S ds g i c'
 |r,i,hr,hi,lo,c,c',hl,hc=>by
  by_cases hk:(nAt g i).kids =[]
  ·rw[h.S_leaf hk,h.S_leaf hk]
  ·have I:=h.inner hi hk;have hl':=hl hk;rw[h.S_inner hi hk,h.S_inner hi hk c',hc (nAt g i).fact.toNat (by omega)];have hm:=I.kid_rng (c'.getD (nAt g i).fact.toNat 0);have hrk:=h.rank_kid hi hm
   cases r with
   |zero=>omega
   |succ r=>
    refine h.S_indep r _ (by omega) hrk.1 lo c c' (λhkk=> ?_) hc;have:=I.up _ hm hkk;omega
end good
def Fit(ds:List zC)(c:List Int):Prop:=c.length=ds.length∧∀j,j<ds.length->(ds.getD j zAA).lo ≤c.getD j 0∧c.getD j 0≤(ds.getD j zAA).hi
def zC5(ds:List zC):Prop:=∀j,j<ds.length->(ds.getD j zAA).lo ≤(ds.getD j zAA).hi
theorem zCq(l:List Int)(i j:Nat)(v:Int):(l.set i v).getD j 0=if i=j∧j<l.length then v else l.getD j 0:=by
 rw[List.getD_eq_getElem?_getD,List.getElem?_set,List.getD_eq_getElem?_getD];by_cases h:i=j
 ·subst h;by_cases h2:i<l.length
  ·rw[if_pos rfl,if_pos h2,if_pos ⟨rfl,h2⟩];rfl
  ·rw[if_pos rfl,if_neg h2,if_neg (λe=>h2 e.2),List.getElem?_eq_none (by omega)]
 ·rw[if_neg h,if_neg (λe=>h e.1)]
theorem Fit.set_{ds:List zC}{c:List Int}(h:Fit ds c){j:Nat}{v:Int}(h1:(ds.getD j zAA).lo ≤v)(h2:v≤(ds.getD j zAA).hi):Fit ds (c.set j v):=by
 refine⟨by simp[h.1],λi hi=> ?_⟩;rw[zCq];split
 ·rename_i e;rw[<-e.1];exact⟨h1,h2⟩
 ·exact h.2 i hi
theorem zC5.least{ds:List zC}(h:zC5 ds):Fit ds (ds.map zC.lo):=by
 refine⟨by simp,λj hj=> ?_⟩
 have e:(ds.map zC.lo).getD j 0=(ds.getD j zAA).lo :=by
  simp[List.getD_eq_getElem?_getD,List.getElem?_eq_getElem hj]
 rw[e];exact⟨Int.le_refl _,h j hj⟩
def EqS(ds:List zC)(g1 g2:List zB)(i1 i2:Int):Prop:=∀c,Fit ds c->S ds g1 i1 c=S ds g2 i2 c
def zOX(ds:List zC)(g:List zB)(r:Nat):Prop:=∀a b,Rng g a->Rng g b->zBr ds g a<r->zBr ds g b<r->EqS ds g g a b->a=b
section canon
variable {ds:List zC} {g g1 g2:List zB}
theorem Good.S_kid(h:Good ds g){i:Int}(hi:Rng g i)(hk:(nAt g i).kids ≠[]){c:List Int}(hc:Fit ds c){v:Int}:
  S ds g i (c.set (nAt g i).fact.toNat v)=S ds g ((nAt g i).kids.getD (nx (nAt g i).cuts v) 0) c:=by
 have I:=h.inner hi hk;have f0:=I.f0;have f1:=I.f1;have hlt:(nAt g i).fact.toNat <c.length:=by rw[hc.1];omega
 rw[h.S_inner hi hk,zCq,if_pos ⟨rfl,hlt⟩];have hm:=I.kid_rng v;have hrk:=h.rank_kid hi hm;refine h.S_indep _ _ (Nat.le_refl _) hrk.1 ((nAt g i).fact.toNat +1) _ _ (λhkk=> ?_) (λj hj=> ?_)
 ·have:=I.up _ hm hkk;omega
 ·rw[zCq,if_neg (by omega)]
theorem zD5.kid_mem{n:zB}(h:zD5 ds g n){j:Nat}(hj:j≤n.cuts.length):n.kids.getD j 0∈n.kids:=by
 have h2:=h.len;have hlt:j<n.kids.length:=by omega
 rw[List.getD_eq_getElem?_getD,List.getElem?_eq_getElem hlt];exact List.getElem_mem hlt
theorem zD5.fact_rng{n:zB}(h:zD5 ds g n):n.fact.toNat<ds.length:=by have:=h.f0;have:=h.f1;omega
theorem Good.start_fit(h:Good ds g)(hl:zC5 ds){i:Int}(hi:Rng g i)(hk:(nAt g i).kids ≠[]){j:Nat}(hj:j≤(nAt g i).cuts.length):
  (ds.getD (nAt g i).fact.toNat zAA).lo ≤zn (fAt ds (nAt g i).fact).lo (nAt g i).cuts j∧zn (fAt ds (nAt g i).fact).lo (nAt g i).cuts j≤(ds.getD (nAt g i).fact.toNat zAA).hi :=by
 have I:=h.inner hi hk;exact zIr I.asc (hl _ I.fact_rng) hj
theorem Good.depends(h:Good ds g)(hl:zC5 ds){r:Nat}(A:zOX ds g r){i:Int}(hi:Rng g i)(hk:(nAt g i).kids ≠[])(hr:zBr ds g i≤r)
  (hin:∀c v,Fit ds c->Fit ds (c.set (nAt g i).fact.toNat v)->S ds g i (c.set (nAt g i).fact.toNat v)=S ds g i c):False:=by
 have I:=h.inner hi hk;have hc1:1≤(nAt g i).cuts.length :=by have:=I.cuts;cases hc:(nAt g i).cuts with|nil=>exact absurd hc this|cons=>simp
 have hd:=I.diff 0 (by have:=I.len;omega);have m0:=I.kid_mem (j:=0) (by omega);have m1:=I.kid_mem (j:=1) hc1;have r0:=h.rank_kid hi m0;have r1:=h.rank_kid hi m1;simp only[Nat.zero_add]at hd;refine hd (A _ _ r0.1 r1.1 (by omega) (by omega) λc hc=> ?_);have s0:=h.start_fit hl hi hk (j:=0) (by omega);have s1:=h.start_fit hl hi hk (j:=1) hc1;have e0:=h.S_kid hi hk hc (v:=zn (fAt ds (nAt g i).fact).lo (nAt g i).cuts 0);have e1:=h.S_kid hi hk hc (v:=zn (fAt ds (nAt g i).fact).lo (nAt g i).cuts 1);rw[zFH I.asc (by omega)]at e0;rw[zFH I.asc hc1]at e1;rw[<-e0,<-e1,hin c _ hc (hc.set_ s0.1 s0.2),hin c _ hc (hc.set_ s1.1 s1.2)]
theorem Good.indep_set(h:Good ds g){i:Int}(hi:Rng g i){f:Int}(hf0:0≤f)(hf:(nAt g i).kids ≠[]->f<(nAt g i).fact)(c:List Int)(v:Int):S ds g i (c.set f.toNat v)=S ds g i c:=by
 refine h.S_indep _ _ (Nat.le_refl _) hi (f.toNat+1) _ _ (λhkk=> ?_) (λj hj=> ?_)
 ·have:=hf hkk;omega
 ·rw[zCq,if_neg (by omega)]
structure Alike (ds:List zC) (g1 g2:List zB) (i1 i2:Int):Prop where
 leaf:(nAt g1 i1).leaf =(nAt g2 i2).leaf
 fact:(nAt g1 i1).fact =(nAt g2 i2).fact
 cuts:(nAt g1 i1).cuts =(nAt g2 i2).cuts
 len:(nAt g1 i1).kids.length =(nAt g2 i2).kids.length
 kids:∀j,j<(nAt g1 i1).kids.length ->EqS ds g1 g2 ((nAt g1 i1).kids.getD j 0) ((nAt g2 i2).kids.getD j 0)
theorem Good.cut_iff(h:Good ds g)(_hl:zC5 ds){r:Nat}(A:zOX ds g r){i:Int}(hi:Rng g i)(hk:(nAt g i).kids ≠[])(hr:zBr ds g i≤r){v:Int}
  (_hv0:(fAt ds (nAt g i).fact).lo <v)(_hv1:v≤(fAt ds (nAt g i).fact).hi):
  v∈(nAt g i).cuts ↔¬∀c,Fit ds c->S ds g i (c.set (nAt g i).fact.toNat (v-1))=S ds g i (c.set (nAt g i).fact.toNat v):=by
 have I:=h.inner hi hk;constructor
 ·intro hm hall;have e:=zSP I.asc hm;have hle:=zCs (nAt g i).cuts v;have hlen:=I.len;have hd:=I.diff (nx (nAt g i).cuts (v-1)) (by omega);have m0:=I.kid_rng (v-1);have m1:=I.kid_rng v;have r0:=h.rank_kid hi m0;have r1:=h.rank_kid hi m1;rw[<-e]at hd;refine hd (A _ _ r0.1 r1.1 (by omega) (by omega) λc hc=> ?_);rw[<-h.S_kid hi hk hc,<-h.S_kid hi hk hc];exact hall c hc
 ·intro hn;by_cases hm:v∈(nAt g i).cuts
  ·exact hm
  ·exact absurd (λc hc=>by rw[h.S_kid hi hk hc,h.S_kid hi hk hc,zUo hm]) hn
theorem zJi(hl:zC5 ds)(h1:Good ds g1)(h2:Good ds g2){r:Nat}(A1:zOX ds g1 r)(A2:zOX ds g2 r){i1 i2:Int}(hi1:Rng g1 i1)(hi2:Rng g2 i2)
  (hr1:zBr ds g1 i1≤r)(hr2:zBr ds g2 i2≤r)(he:EqS ds g1 g2 i1 i2):Alike ds g1 g2 i1 i2:=by
 by_cases hk1:(nAt g1 i1).kids =[]
 ·by_cases hk2:(nAt g2 i2).kids =[]
  ·rcases h1.proper _ (zDz hi1)with⟨_,a1,b1⟩|h
   ·rcases h2.proper _ (zDz hi2)with⟨_,a2,b2⟩|h
    ·have:=he _ hl.least;rw[h1.S_leaf hk1,h2.S_leaf hk2]at this;exact⟨this,by rw[a1,a2],by rw[b1,b2],by rw[hk1,hk2],λj hj=>by rw[hk1]at hj;simp at hj⟩
    ·exact absurd hk2 h.ne
   ·exact absurd hk1 h.ne
  ·exfalso;have I:=h2.inner hi2 hk2;(refine h2.depends hl A2 hi2 hk2 hr2 λc v hc hc'=> ?_);rw[<-he _ hc,<-he _ hc'];exact h1.indep_set hi1 I.f0 (λh=>absurd hk1 h) c v
 ·have I1:=h1.inner hi1 hk1;by_cases hk2:(nAt g2 i2).kids =[]
  ·exfalso;(refine h1.depends hl A1 hi1 hk1 hr1 λc v hc hc'=> ?_);rw[he _ hc,he _ hc'];exact h2.indep_set hi2 I1.f0 (λh=>absurd hk2 h) c v
  ·have I2:=h2.inner hi2 hk2
   have hf:(nAt g1 i1).fact =(nAt g2 i2).fact :=by
    rcases Int.lt_trichotomy (nAt g1 i1).fact (nAt g2 i2).fact with hlt|e|hgt
    ·exfalso;(refine h1.depends hl A1 hi1 hk1 hr1 λc v hc hc'=> ?_);rw[he _ hc,he _ hc'];exact h2.indep_set hi2 I1.f0 (λ_=>hlt) c v
    ·exact e
    ·exfalso;(refine h2.depends hl A2 hi2 hk2 hr2 λc v hc hc'=> ?_);rw[<-he _ hc,<-he _ hc'];exact h1.indep_set hi1 I2.f0 (λ_=>hgt) c v
   have hval:∀c v,Fit ds c->(fAt ds (nAt g1 i1).fact).lo ≤v->v≤(fAt ds (nAt g1 i1).fact).hi ->S ds g1 i1 (c.set (nAt g1 i1).fact.toNat v)=S ds g2 i2 (c.set (nAt g2 i2).fact.toNat v):=by
    intro c v hc a b;rw[<-hf];exact he _ (hc.set_ a b)
   have hcuts:(nAt g1 i1).cuts =(nAt g2 i2).cuts :=by
    have a1:=I1.asc;have a2:=I2.asc;rw[<-hf]at a2;(refine zJQ a1 a2 λv=> ?_);by_cases hv:(fAt ds (nAt g1 i1).fact).lo <v∧v≤(fAt ds (nAt g1 i1).fact).hi
    ·rw[h1.cut_iff hl A1 hi1 hk1 hr1 hv.1 hv.2,h2.cut_iff hl A2 hi2 hk2 hr2 (by rw[<-hf];exact hv.1) (by rw[<-hf];exact hv.2)];refine not_congr ⟨λh c hc=> ?_,λh c hc=> ?_⟩
     ·rw[<-hval c _ hc (by omega) (by omega),<-hval c _ hc (by omega) (by omega)];exact h c hc
     ·rw[hval c _ hc (by omega) (by omega),hval c _ hc (by omega) (by omega)];exact h c hc
    ·exact⟨λh=>absurd (zA3 a1 v h) hv,λh=>absurd (zA3 a2 v h) hv⟩
   refine⟨by rw[I1.leaf,I2.leaf],hf,hcuts,by rw[I1.len,I2.len,hcuts],λj hj c hc=> ?_⟩;(have hj1:j≤(nAt g1 i1).cuts.length :=by have:=I1.len;omega);(have hj2:j≤(nAt g2 i2).cuts.length :=by rw[<-hcuts];exact hj1);have s:=h1.start_fit hl hi1 hk1 hj1;have e1:=h1.S_kid hi1 hk1 hc (v:=zn (fAt ds (nAt g1 i1).fact).lo (nAt g1 i1).cuts j);have e2:=h2.S_kid hi2 hk2 hc (v:=zn (fAt ds (nAt g1 i1).fact).lo (nAt g1 i1).cuts j);have e3:=hval c _ hc s.1 s.2;rw[zFH I1.asc hj1]at e1;have a2:=I2.asc;rw[<-hf]at a2;rw[show nx (nAt g2 i2).cuts (zn (fAt ds (nAt g1 i1).fact).lo (nAt g1 i1).cuts j)=j by rw[hcuts];exact zFH a2 hj2]at e2;rw[<-e1,<-e2,e3]
theorem zB.ext'{a b:zB}(h1:a.leaf=b.leaf)(h2:a.fact=b.fact)(h3:a.cuts=b.cuts)(h4:a.kids=b.kids):a=b:=by
 cases a;cases b;simp at h1 h2 h3 h4;subst h1 h2 h3 h4;rfl
theorem zFc{l m:List Int}(h:l.length=m.length)(hj:∀j,j<l.length->l.getD j 0=m.getD j 0):l=m:=by
 apply List.ext_getElem h;intro i h1 h2;have:=hj i h1;simpa[List.getD_eq_getElem?_getD,List.getElem?_eq_getElem h1,List.getElem?_eq_getElem h2]using this
theorem zAf{l:List Int}{j:Nat}(hj:j<l.length):l.getD j 0∈l:=by
 rw[List.getD_eq_getElem?_getD,List.getElem?_eq_getElem hj];exact List.getElem_mem hj
theorem Good.uniq_all(hl:zC5 ds)(h:Good ds g):∀r,zOX ds g r
 |0=>λ_ _ _ _ h1 _ _=>by omega
 |r+1=>λa b ha hb hra hrb he=>by
  have A:=Good.uniq_all hl h r;have K:=zJi hl h h A A ha hb (by omega) (by omega) he;refine zKM h.nodup ha hb (zB.ext' K.leaf K.fact K.cuts (zFc K.len λj hj=> ?_));have r1:=h.rank_kid ha (zAf hj);have r2:=h.rank_kid hb (zAf (K.len▸hj));exact A _ _ r1.1 r2.1 (by omega) (by omega) (K.kids j hj)
theorem Good.uniq(hl:zC5 ds)(h:Good ds g){a b:Int}(ha:Rng g a)(hb:Rng g b)(he:EqS ds g g a b):a=b:=
 h.uniq_all hl (ds.length+1) a b ha hb (by have:=zCG (ds:=ds) (g:=g) a;omega) (by have:=zCG (ds:=ds) (g:=g) b;omega) he
theorem Good.alike(hl:zC5 ds)(h1:Good ds g1)(h2:Good ds g2){a b:Int}(ha:Rng g1 a)(hb:Rng g2 b)(he:EqS ds g1 g2 a b):Alike ds g1 g2 a b:=
 zJi hl h1 h2 (h1.uniq_all hl ds.length) (h2.uniq_all hl ds.length) ha hb (zCG _) (zCG _) he
end canon
def z8(g:List zB):Nat->Int->List Int->List Int
 |0,_,o=>o
 |k+1,i,o=>if i∈o then o else(nAt g i).kids.foldl (λo x=>z8 g k x o) (o++[i])
def zBH(ds:List zC)(g:List zB)(i:Int):List Int:=z8 g (ds.length+1) i []
def za(o:List Int)(k:Int):Int:=if k∈o then(o.idxOf k:Nat)else 0
def zAS(g:List zB)(o:List Int)(i:Int):zB:=⟨(nAt g i).leaf,(nAt g i).fact,(nAt g i).cuts,(nAt g i).kids.map (za o)⟩
def zAQ(ds:List zC)(g:List zB)(i:Int):List zB:=(zBH ds g i).map (zAS g (zBH ds g i))
section visit
variable {ds:List zC} {g g1 g2:List zB}
structure zGn (g:List zB) (o o':List Int):Prop where
 pre:∃t,o'=o++t
 nodup:o'.Nodup
 rng:∀x∈o',Rng g x
 kids:∀x∈o',x∉o->∀y∈(nAt g x).kids,y∈o'
theorem zGn.sub{o o':List Int}(h:zGn g o o'){x:Int}(hx:x∈o):x∈o':=by
 obtain⟨t,rfl⟩:=h.pre;exact List.mem_append_left _ hx
theorem zGn.trans{o o' o'':List Int}(h:zGn g o o')(k:zGn g o' o''):zGn g o o'':=by
 refine⟨?_,k.nodup,k.rng,λx hx hxo y hy=> ?_⟩
 ·obtain⟨t,rfl⟩:=h.pre;obtain⟨t',rfl⟩:=k.pre;exact⟨t++t',by simp⟩
 ·by_cases h':x∈o'
  ·exact k.sub (h.kids x h' hxo y hy)
  ·exact k.kids x hx h' y hy
theorem zEA(h:Good ds g):∀(k:Nat)(i:Int)(o:List Int),Rng g i->zBr ds g i<k->(∀x∈o,Rng g x)->o.Nodup->zGn g o (z8 g k i o)∧i∈z8 g k i o
 |0,_,_,_,hr,_,_=>by omega
 |k+1,i,o,hi,hr,ho,hn=>by
  unfold z8;by_cases hm:i∈o
  ·rw[if_pos hm];exact⟨⟨⟨[],by simp⟩,hn,ho,λx hx hxo=>absurd hx hxo⟩,hm⟩
  ·rw[if_neg hm]
   have fold:∀(l o:List Int),(∀x∈l,Rng g x∧zBr ds g x<k)->(∀x∈o,Rng g x)->o.Nodup->
     zGn g o (l.foldl (λo x=>z8 g k x o) o)∧∀x∈l,x∈l.foldl (λo x=>z8 g k x o) o:=by
    intro l
    induction l with
    |nil=>intro o _ ho hn;exact⟨⟨⟨[],by simp⟩,hn,ho,λx hx hxo=>absurd hx hxo⟩,by simp⟩
    |cons a l ih=>
     intro o hl ho hn;obtain⟨v1,m1⟩:=zEA h k a o (hl a (by simp)).1 (hl a (by simp)).2 ho hn;obtain⟨v2,m2⟩:=ih (z8 g k a o) (λx hx=>hl x (List.mem_cons_of_mem _ hx)) v1.rng v1.nodup;refine⟨v1.trans v2,λx hx=> ?_⟩;rcases List.mem_cons.1 hx with rfl|hx
     ·exact v2.sub m1
     ·exact m2 x hx
   have ho':∀x∈o++[i],Rng g x:=λx hx=>by
    rcases List.mem_append.1 hx with hx|hx
    ·exact ho x hx
    ·simp at hx;rw[hx];exact hi
   have hn':(o++[i]).Nodup :=by
    rw[List.nodup_append];exact⟨hn,by simp,λa ha b hb e=>by simp at hb;subst hb;exact hm (e▸ha)⟩
   obtain⟨v,m⟩:=fold (nAt g i).kids (o++[i]) (λx hx=>by have:=h.rank_kid hi hx;exact⟨this.1,by omega⟩) ho' hn';refine⟨⟨?_,v.nodup,v.rng,λx hx hxo y hy=> ?_⟩,v.sub (by simp)⟩
   ·obtain⟨t,e⟩:=v.pre;exact⟨i::t,by rw[e];simp⟩
   ·by_cases e:x=i
    ·subst e;exact m y hy
    ·exact v.kids x hx (by simp[hxo,e]) y hy
theorem zQz(_h:Good ds g)(k:Nat)(i:Int):∃t,z8 g (k+1) i []=i::t:=by
 have fold:∀(l o:List Int),∃t,l.foldl (λo x=>z8 g k x o) o=o++t:=by
  have pre:∀(k:Nat)(i:Int)(o:List Int),∃t,z8 g k i o=o++t:=by
   intro k
   induction k with
   |zero=>intro i o;exact⟨[],by simp[z8]⟩
   |succ k ih=>
    intro i o;unfold z8;split
    ·exact⟨[],by simp⟩
    ·have:∀(l o:List Int),∃t,l.foldl (λo x=>z8 g k x o) o=o++t:=by
      intro l
      induction l with
      |nil=>intro o;exact⟨[],by simp⟩
      |cons a l ih'=>
       intro o;obtain⟨t,e⟩:=ih a o;obtain⟨t',e'⟩:=ih' (z8 g k a o);exact⟨t++t',by rw[List.foldl_cons,e',e];simp⟩
     obtain⟨t,e⟩:=this (nAt g i).kids (o++[i]);exact⟨i::t,by rw[e];simp⟩
  intro l
  induction l with
  |nil=>intro o;exact⟨[],by simp⟩
  |cons a l ih=>
   intro o;obtain⟨t,e⟩:=pre k a o;obtain⟨t',e'⟩:=ih (z8 g k a o);exact⟨t++t',by rw[List.foldl_cons,e',e];simp⟩
 unfold z8;rw[if_neg (by simp)];obtain⟨t,e⟩:=fold (nAt g i).kids ([]++[i]);exact⟨t,by rw[e];rfl⟩
structure zJR (ds:List zC) (g:List zB) (i:Int) (o:List Int):Prop where
 head:∃t,o=i::t
 nodup:o.Nodup
 rng:∀x∈o,Rng g x
 kids:∀x∈o,∀y∈(nAt g x).kids,y∈o
theorem zCf(h:Good ds g){i:Int}(hi:Rng g i):zJR ds g i (zBH ds g i):=by
 have hr:=zCG (ds:=ds) (g:=g) i;obtain⟨v,_⟩:=zEA h (ds.length+1) i [] hi (by omega) (by simp) (by simp);exact⟨zQz h ds.length i,v.nodup,v.rng,λx hx=>v.kids x hx (by simp)⟩
theorem zD6:∀(n:Nat)(l:List Int),l.Nodup->(∀x∈l,0≤x∧x<n)->l.length≤n
 |0,l,_,h=>by
  cases l with
  |nil=>simp
  |cons a r=>have:=h a (by simp);omega
 |n+1,l,hn,h=>by
  have h1:(l.erase (n:Int)).length ≤n:=zD6 n _ (hn.erase _) (λx hx=>by
   have a:=h x (List.mem_of_mem_erase hx)
   have b:x≠(n:Int):=λe=>by
    subst e;have:=(List.Nodup.mem_erase_iff hn).1 hx;exact this.1 rfl
   omega)
  have h2:=List.length_erase (a:=(n:Int)) (l:=l);split at h2<;>omega
theorem zJR.length_le{i:Int}{o:List Int}(h:zJR ds g i o):o.length≤g.length:=zD6 _ _ h.nodup h.rng
inductive R2 (R:Int->Int->Prop):List Int->List Int->Prop where
 |nil:R2 R [] []
 |cons {a b:Int} {l m:List Int}:R a b->R2 R l m->R2 R (a::l) (b::m)
theorem R2.of_getD{R:Int->Int->Prop}:∀{l m:List Int},l.length=m.length->(∀j,j<l.length->R (l.getD j 0) (m.getD j 0))->R2 R l m
 |[],[],_,_=> .nil
 |[],_::_,h,_=>by simp at h
 | _::_,[],h,_=>by simp at h
 |a::l,b::m,h,hj=> .cons (by simpa using hj 0 (by simp)) (R2.of_getD (by simpa using h) λj hlt=>by simpa using hj (j+1) (by simpa using hlt))
theorem R2.append{R:Int->Int->Prop}{l m l' m':List Int}(h:R2 R l m)(h':R2 R l' m'):R2 R (l++l') (m++m'):=by
 induction h with
 |nil=>exact h'
 |cons h _ ih=>exact .cons h ih
theorem R2.mem{R:Int->Int->Prop}(hr:∀a a' b,R a b->R a' b->a=a')(hl:∀a b b',R a b->R a b'->b=b'){l m:List Int}(h:R2 R l m){a b:Int}(hab:R a b):a∈l↔b∈m:=by
 induction h with
 |nil=>simp
 |cons h _ ih=>
  rename_i x y l m _;simp only[List.mem_cons,ih];refine or_congr ⟨λe=> ?_,λe=> ?_⟩ Iff.rfl
  ·subst e;exact hl _ _ _ hab h
  ·subst e;exact hr _ _ _ hab h
theorem R2.idx{R:Int->Int->Prop}(hr:∀a a' b,R a b->R a' b->a=a')(hl:∀a b b',R a b->R a b'->b=b'){l m:List Int}(h:R2 R l m){a b:Int}(hab:R a b):l.idxOf a=m.idxOf b:=by
 induction h with
 |nil=>rfl
 |cons h _ ih=>
  rename_i x y l m _;rw[List.idxOf_cons,List.idxOf_cons,ih]
  have:(x==a)=(y==b):=by
   rw[Bool.eq_iff_iff,beq_iff_eq,beq_iff_eq];constructor
   ·intro e;subst e;exact hl _ _ _ h hab
   ·intro e;subst e;exact hr _ _ _ h hab
  rw[this]
theorem R2.map_eq{α:Type}{R:Int->Int->Prop}{f f':Int->α}{l m:List Int}(h:R2 R l m)(hf:∀a b,R a b->f a=f' b):l.map f=m.map f':=by
 induction h with
 |nil=>rfl
 |cons h _ ih=>rw[List.map_cons,List.map_cons,ih,hf _ _ h]
theorem zMi{R:Int->Int->Prop}(hr:∀a a' b,R a b->R a' b->a=a')(hl:∀a b b',R a b->R a b'->b=b')(hk:∀a b,R a b->R2 R (nAt g1 a).kids (nAt g2 b).kids):
  ∀(k:Nat)(a b:Int)(o1 o2:List Int),R a b->R2 R o1 o2->R2 R (z8 g1 k a o1) (z8 g2 k b o2)
 |0,_,_,_,_,_,h=>by simpa[z8]using h
 |k+1,a,b,o1,o2,hab,h=>by
  unfold z8;have hm:=R2.mem hr hl h hab;by_cases h1:a∈o1
  ·rw[if_pos h1,if_pos (hm.1 h1)];exact h
  ·rw[if_neg h1,if_neg (λh=>h1 (hm.2 h))]
   have fold:∀{l m:List Int},R2 R l m->∀o1 o2,R2 R o1 o2->R2 R (l.foldl (λo x=>z8 g1 k x o) o1) (m.foldl (λo x=>z8 g2 k x o) o2):=by
    intro l m hlm
    induction hlm with
    |nil=>intro o1 o2 ho;exact ho
    |cons h _ ih=>intro o1 o2 ho;exact ih _ _ (zMi hr hl hk k _ _ _ _ h ho)
   exact fold (hk a b hab) _ _ (h.append (.cons hab .nil))
theorem zHf(hl:zC5 ds)(h1:Good ds g1)(h2:Good ds g2){a b:Int}(ha:Rng g1 a)(hb:Rng g2 b)(he:EqS ds g1 g2 a b):zAQ ds g1 a=zAQ ds g2 b:=by
 let R:Int->Int->Prop:=λa b=>Rng g1 a∧Rng g2 b∧EqS ds g1 g2 a b
 have hr:∀a a' b,R a b->R a' b->a=a':=λa a' b h h'=>h1.uniq hl h.1 h'.1 λc hc=>by rw[h.2.2 c hc,h'.2.2 c hc]
 have hll:∀a b b',R a b->R a b'->b=b':=λa b b' h h'=>h2.uniq hl h.2.1 h'.2.1 λc hc=>by rw[<-h.2.2 c hc,<-h'.2.2 c hc]
 have hkk:∀a b,R a b->R2 R (nAt g1 a).kids (nAt g2 b).kids :=λa b h=>by
  have K:=Good.alike hl h1 h2 h.1 h.2.1 h.2.2;exact R2.of_getD K.len λj hj=>⟨(h1.rank_kid h.1 (zAf hj)).1,(h2.rank_kid h.2.1 (zAf (K.len▸hj))).1,K.kids j hj⟩
 have ho:R2 R (zBH ds g1 a) (zBH ds g2 b):=zMi hr hll hkk _ _ _ _ _ ⟨ha,hb,he⟩ .nil;unfold zAQ;refine ho.map_eq λx y hxy=> ?_
 have K:=Good.alike hl h1 h2 hxy.1 hxy.2.1 hxy.2.2;unfold zAS;refine zB.ext' K.leaf K.fact K.cuts ?_;refine(hkk x y hxy).map_eq λu v huv=> ?_
 unfold za;by_cases hu:u∈zBH ds g1 a
 ·rw[if_pos hu,if_pos ((ho.mem hr hll huv).1 hu),ho.idx hr hll huv]
 ·rw[if_neg hu,if_neg (λh=>hu ((ho.mem hr hll huv).2 h))]
end visit
section renumber
variable {ds:List zC} {g:List zB} {i:Int} {o:List Int}
theorem zIs{k:Int}(hk:k∈o):0≤za o k∧za o k<o.length:=by
 unfold za;rw[if_pos hk];have:=List.idxOf_lt_length_of_mem hk;omega
theorem zMj{a b:Int}(ha:a∈o)(hb:b∈o)(h:za o a=za o b):a=b:=by
 unfold za at h;rw[if_pos ha,if_pos hb]at h;have h1:=List.getElem_idxOf (List.idxOf_lt_length_of_mem ha);have h2:=List.getElem_idxOf (List.idxOf_lt_length_of_mem hb);have e:o.idxOf a=o.idxOf b:=by omega
 rw[<-h1,<-h2];simp only[e]
theorem zOY{f:Int->zB}{k:Int}(hk:k∈o):nAt (o.map f) (za o k)=f k:=by
 have hlt:=List.idxOf_lt_length_of_mem hk;unfold za;rw[if_pos hk,zAI (by simpa using hlt),List.getElem_map,List.getElem_idxOf hlt]
theorem zLE(h:Good ds g)(ho:zJR ds g i o):Good ds (o.map (zAS g o)):=by
 constructor
 ·intro n hn;obtain⟨x,hx,rfl⟩:=List.mem_map.1 hn;rcases h.proper _ (zDz (ho.rng x hx))with hp|I
  ·left;exact⟨by simp[zAS,hp.1],hp.2.1,hp.2.2⟩
  ·right;have hkid:=ho.kids x hx;refine⟨by simp[zAS,I.ne],I.leaf,I.f0,I.f1,I.cuts,by simp[zAS,I.len],I.asc,λk hk=> ?_,λk hk=> ?_,λj hj=> ?_⟩
   ·obtain⟨y,hy,rfl⟩:=List.mem_map.1 hk;have:=zIs (hkid y hy);exact⟨this.1,by rw[List.length_map];exact this.2⟩
   ·obtain⟨y,hy,rfl⟩:=List.mem_map.1 hk;rw[zOY (hkid y hy)];intro hne;exact I.up y hy (by intro e;simp[zAS,e]at hne)
   ·have hj':j+1<(nAt g x).kids.length :=by simpa[zAS]using hj
    have e:∀j,j<(nAt g x).kids.length ->(zAS g o x).kids.getD j 0=za o ((nAt g x).kids.getD j 0):=λj hj=>by
     simp[zAS,List.getD_eq_getElem?_getD,List.getElem?_eq_getElem hj]
    rw[e j (by omega),e (j+1) hj'];intro hh;exact I.diff j hj' (zMj (hkid _ (zAf (by omega))) (hkid _ (zAf hj')) hh)
 ·have hp:(o.map (zAS g o)).Pairwise (· ≠ ·):=by
   rw[List.pairwise_map];refine List.Pairwise.imp_of_mem (R:=(· ≠ ·)) (λ{a b} ha hb hne e=>hne ?_) ho.nodup;unfold zAS at e;injection e with e1 e2 e3 e4;refine zKM h.nodup (ho.rng a ha) (ho.rng b hb) (zB.ext' e1 e2 e3 ?_);have hka:=ho.kids a ha;have hkb:=ho.kids b hb;(have hlen:(nAt g a).kids.length =(nAt g b).kids.length :=by have:=congrArg List.length e4;simpa using this);(refine zFc hlen λj hj=> ?_);refine zMj (hka _ (zAf hj)) (hkb _ (zAf (hlen▸hj))) ?_;have:=congrArg (λl=>l.getD j 0) e4;simpa[List.getD_eq_getElem?_getD,List.getElem?_eq_getElem hj,List.getElem?_eq_getElem (hlen▸hj)]using this
  exact hp
theorem zLn(h:Good ds g)(ho:zJR ds g i o):∀(r:Nat)(x:Int),x∈o->zBr ds g x≤r->∀c,S ds (o.map (zAS g o)) (za o x) c=S ds g x c
 |r,x,hx,hr,c=>by
  have h':=zLE h ho;have hi:=ho.rng x hx;have hat:nAt (o.map (zAS g o)) (za o x)=zAS g o x:=zOY hx;have hp:=zIs hx;have hi':Rng (o.map (zAS g o)) (za o x):=⟨hp.1,by rw[List.length_map];exact hp.2⟩;by_cases hk:(nAt g x).kids =[]
  ·rw[h.S_leaf hk,h'.S_leaf (by rw[hat];simp[zAS,hk]),hat];rfl
  ·rw[h.S_inner hi hk,h'.S_inner hi' (by rw[hat];simp[zAS,hk]),hat];have I:=h.inner hi hk;have hm:=I.kid_rng (c.getD (nAt g x).fact.toNat 0);have hrk:=h.rank_kid hi hm;have hlt:nx (nAt g x).cuts (c.getD (nAt g x).fact.toNat 0)<(nAt g x).kids.length :=by have:=zCs (nAt g x).cuts (c.getD (nAt g x).fact.toNat 0);have:=I.len;omega
   have e:(zAS g o x).kids.getD (nx (zAS g o x).cuts (c.getD (zAS g o x).fact.toNat 0)) 0=za o ((nAt g x).kids.getD (nx (nAt g x).cuts (c.getD (nAt g x).fact.toNat 0)) 0):=by
    show((nAt g x).kids.map (za o)).getD (nx (nAt g x).cuts (c.getD (nAt g x).fact.toNat 0)) 0=_;generalize nx (nAt g x).cuts (c.getD (nAt g x).fact.toNat 0)=q at*;simp[List.getD_eq_getElem?_getD,List.getElem?_eq_getElem hlt]
   rw[e]
   cases r with
   |zero=>omega
   |succ r=>exact zLn h ho r _ (ho.kids x hx _ hm) (by omega) c
theorem zRA(ho:zJR ds g i o):za o i=0:=by
 obtain⟨t,rfl⟩:=ho.head;unfold za;rw[if_pos (by simp)];simp
theorem zLF(h:Good ds g)(hi:Rng g i):Good ds (zAQ ds g i):=zLE h (zCf h hi)
theorem zMk(h:Good ds g)(hi:Rng g i):Rng (zAQ ds g i) 0:=by
 obtain⟨t,e⟩:=(zCf h hi).head;refine⟨Int.le_refl _,?_⟩;unfold zAQ;rw[List.length_map,e];simp
theorem zLo(h:Good ds g)(hi:Rng g i)(c:List Int):S ds (zAQ ds g i) 0 c=S ds g i c:=by
 have ho:=zCf h hi;have:=zLn h ho _ i (by obtain⟨t,e⟩:=ho.head;rw[e];simp) (Nat.le_refl _) c;rw[zRA ho]at this;exact this
theorem zP4(hl:zC5 ds)(h:Good ds g)(hi:Rng g i):zAQ ds (zAQ ds g i) 0=zAQ ds g i:=
 zHf hl (zLF h hi) h (zMk h hi) hi λc _=>zLo h hi c
end renumber
def zW(all:List zB)(n:zB):Int × List zB:=if n∈all then((all.idxOf n:Nat),all)else((all.length:Nat),all++[n])
def zM:Int->List Int->List Int->List Int × List Int
 |last,s::ss,k::ks=>if k=last then zM last ss ks else(s::(zM k ss ks).1,k::(zM k ss ks).2)
 | _,_,_=>([],[])
def zb(all:List zB)(i:Int)(starts kids:List Int):Int × List zB:=
 if(zM (kids.getD 0 0) starts kids).2=[]then(kids.getD 0 0,all)
 else zW all ⟨false,i,(zM (kids.getD 0 0) starts kids).1,kids.getD 0 0::(zM (kids.getD 0 0) starts kids).2⟩
section ext
variable {ds:List zC} {g t:List zB}
theorem Rng.app{i:Int}(h:Rng g i)(t:List zB):Rng (g++t) i:=⟨h.1,by have:=h.2;simp;omega⟩
theorem zE7{i:Int}(h:Rng g i)(t:List zB):nAt (g++t) i=nAt g i:=by
 unfold nAt;have h0:=h.1;have h1:=h.2;have:i.toNat<g.length:=by omega
 rw[List.getD_eq_getElem?_getD,List.getD_eq_getElem?_getD,List.getElem?_append_left this]
theorem zTa(h:Good ds g)(h':Good ds (g++t)):∀(r:Nat)(i:Int),Rng g i->zBr ds g i≤r->∀c,S ds (g++t) i c=S ds g i c
 |r,i,hi,hr,c=>by
  by_cases hk:(nAt g i).kids =[]
  ·rw[h.S_leaf hk,h'.S_leaf (by rw[zE7 hi];exact hk),zE7 hi]
  ·have I:=h.inner hi hk;have hm:=I.kid_rng (c.getD (nAt g i).fact.toNat 0);have hrk:=h.rank_kid hi hm;rw[h.S_inner hi hk,h'.S_inner (hi.app t) (by rw[zE7 hi];exact hk),zE7 hi]
   cases r with
   |zero=>omega
   |succ r=>exact zTa h h' r _ hrk.1 (by omega) c
theorem zIt(h:Good ds g)(h':Good ds (g++t)){i:Int}(hi:Rng g i)(c:List Int):S ds (g++t) i c=S ds g i c:=zTa h h' _ i hi (Nat.le_refl _) c
theorem zD5.app{n:zB}(h:zD5 ds g n)(t:List zB):zD5 ds (g++t) n:=
 ⟨h.ne,h.leaf,h.f0,h.f1,h.cuts,h.len,h.asc,λk hk=>(h.rng k hk).app t,λk hk=>by rw[zE7 (h.rng k hk)];exact h.up k hk,h.diff⟩
theorem zFW.app{n:zB}(h:zFW ds g n)(t:List zB):zFW ds (g++t) n:=h.imp id (λh=>h.app t)
theorem Good.nil(ds:List zC):Good ds []:=⟨λ_ h=>absurd h (by simp),by simp⟩
structure Made (ds:List zC) (g g':List zB) (i:Int):Prop where
 pre:∃t,g'=g++t
 good:Good ds g'
 rng:Rng g' i
theorem Made.S_old{g':List zB}{i j:Int}(h:Made ds g g' i)(hg:Good ds g)(hj:Rng g j)(c:List Int):S ds g' j c=S ds g j c:=by
 obtain⟨t,rfl⟩:=h.pre;exact zIt hg h.good hj c
theorem zFX(h:Good ds g){n:zB}(hn:zFW ds g n):Made ds g (zW g n).2 (zW g n).1∧nAt (zW g n).2 (zW g n).1=n:=by
 unfold zW;by_cases hm:n∈g
 ·rw[if_pos hm];have hlt:=List.idxOf_lt_length_of_mem hm;refine⟨⟨⟨[],by simp⟩,h,⟨by simp,by simpa using hlt⟩⟩,?_⟩;rw[zAI hlt,List.getElem_idxOf hlt]
 ·rw[if_neg hm];have hr:Rng (g++[n]) (g.length:Nat):=⟨by omega,by simp;omega⟩;refine⟨⟨⟨[n],rfl⟩,⟨λm hm'=> ?_,?_⟩,hr⟩,?_⟩
  ·rcases List.mem_append.1 hm' with h'|h'
   ·exact(h.proper m h').app _
   ·simp at h';rw[h'];exact hn.app _
  ·rw[List.nodup_append];exact⟨h.nodup,by simp,λa ha b hb e=>by simp at hb;subst hb;exact hm (e▸ha)⟩
  ·simp only;rw[zAI (by simp)];simp
end ext
theorem zE8:∀(last:Int)(ss ks:List Int),(zM last ss ks).1.length =(zM last ss ks).2.length
 |last,s::ss,k::ks=>by
  unfold zM;split
  ·exact zE8 last ss ks
  ·simp[zE8 k ss ks]
 | _,[],_=>rfl
 | _,_::_,[]=>rfl
theorem zIu:∀(last lo hi:Int)(ss ks:List Int),zk lo hi ss->zk lo hi (zM last ss ks).1
 |last,lo,hi,s::ss,k::ks,h=>by
  unfold zM;split
  ·exact zIu last lo hi ss ks (zOW h.2.2 (Int.le_of_lt h.1))
  ·exact⟨h.1,h.2.1,zIu k s hi ss ks h.2.2⟩
 | _,_,_,[],_,_=>trivial
 | _,_,_,_::_,[],_=>trivial
theorem zFY:∀(last:Int)(ss ks:List Int),∀k∈(zM last ss ks).2,k∈ks
 |last,s::ss,k::ks,x,hx=>by
  unfold zM at hx;split at hx
  ·exact List.mem_cons_of_mem _ (zFY last ss ks x hx)
  ·rcases List.mem_cons.1 hx with rfl|hx
   ·simp
   ·exact List.mem_cons_of_mem _ (zFY k ss ks x hx)
 | _,[],_,_,h=>absurd h (by simp[zM])
 | _,_::_,[],_,h=>absurd h (by simp[zM])
theorem zHg:∀(last:Int)(ss ks:List Int)(j:Nat),j+1<(last::(zM last ss ks).2).length ->(last::(zM last ss ks).2).getD j 0≠(last::(zM last ss ks).2).getD (j+1) 0
 |last,s::ss,k::ks,j,hj=>by
  unfold zM at hj⊢;split
  ·rename_i h;rw[if_pos h]at hj;exact zHg last ss ks j hj
  ·rename_i h;rw[if_neg h]at hj
   cases j with
   |zero=>simp;exact λe=>h e.symm
   |succ j=>
    have:=zHg k ss ks j (by simpa using hj);simpa using this
 | _,[],_,j,hj=>by simp[zM]at hj
 | _,_::_,[],j,hj=>by simp[zM]at hj
theorem zHh:∀(last lo hi:Int)(ss ks:List Int)(v:Int),ss.length=ks.length->zk lo hi ss->
  (last::(zM last ss ks).2).getD (nx (zM last ss ks).1 v) 0=(last::ks).getD (nx ss v) 0
 |last,lo,hi,s::ss,k::ks,v,hl,h=>by
  have hl':ss.length=ks.length:=by simpa using hl
  unfold zM;by_cases hk:k=last
  ·rw[if_pos hk,zHh last s hi ss ks v hl' h.2.2];rw[show nx (s::ss) v=if v<s then 0 else nx ss v+1 from rfl];by_cases hv:v<s
   ·rw[if_pos hv,zOV h.2.2 (v:=v) (by omega)];rfl
   ·rw[if_neg hv,hk,List.getD_cons_succ]
  ·rw[if_neg hk];simp only[nx];by_cases hv:v<s
   ·rw[if_pos hv,if_pos hv];rfl
   ·rw[if_neg hv,if_neg hv,List.getD_cons_succ,List.getD_cons_succ];exact zHh k s hi ss ks v hl' h.2.2
 | _,_,_,[],[],_,_,_=>by simp[zM,nx]
 | _,_,_,[],_::_,_,h,_=>by simp at h
 | _,_,_,_::_,[],_,h,_=>by simp at h
theorem zJj(k:Int)(s:Int)(ss ks:List Int):zM k (s::ss) (k::ks)=zM k ss ks:=by
 rw[zM,if_pos rfl]
theorem zFz{ds:List zC}{g:List zB}(h:Good ds g){i:Nat}(hi:i<ds.length){rest:List Int}{k0:Int}{ks:List Int}(hl:rest.length=ks.length)
  (ha:zk (ds.getD i zAA).lo (ds.getD i zAA).hi rest)(hr:∀k∈k0::ks,Rng g k)(hu:∀k∈k0::ks,(nAt g k).kids ≠[]->(i:Int)<(nAt g k).fact):
  Made ds g (zb g i ((ds.getD i zAA).lo ::rest) (k0::ks)).2 (zb g i ((ds.getD i zAA).lo ::rest) (k0::ks)).1∧
  (∀c,S ds (zb g i ((ds.getD i zAA).lo ::rest) (k0::ks)).2 (zb g i ((ds.getD i zAA).lo ::rest) (k0::ks)).1 c=S ds g ((k0::ks).getD (nx rest (c.getD i 0)) 0) c)∧
  ((nAt (zb g i ((ds.getD i zAA).lo ::rest) (k0::ks)).2 (zb g i ((ds.getD i zAA).lo ::rest) (k0::ks)).1).kids ≠[]->
   (i:Int)≤(nAt (zb g i ((ds.getD i zAA).lo ::rest) (k0::ks)).2 (zb g i ((ds.getD i zAA).lo ::rest) (k0::ks)).1).fact):=by
 unfold zb;simp only[List.getD_cons_zero,zJj];have hp:=λv=>zHh k0 _ _ rest ks v hl ha
 have hlen:=zE8 k0 rest ks;have hasc:=zIu k0 _ _ rest ks ha;have hmem:=zFY k0 rest ks;have hdiff:=zHg k0 rest ks;generalize zM k0 rest ks=m at*;by_cases he:m.2=[]
 ·rw[if_pos he];refine⟨⟨⟨[],by simp⟩,h,hr k0 (by simp)⟩,λc=> ?_,λhk=>Int.le_of_lt (hu k0 (by simp) hk)⟩;have h1:m.1=[]:=List.eq_nil_of_length_eq_zero (by rw[hlen,he];rfl);rw[<-hp,h1,he];rfl
 ·rw[if_neg he]
  have hmem':∀k∈k0::m.2,k∈k0::ks:=λk hk=>by
   rcases List.mem_cons.1 hk with rfl|hk
   ·simp
   ·exact List.mem_cons_of_mem _ (hmem k hk)
  have I:zD5 ds g ⟨false,i,m.1,k0::m.2⟩:=by
   refine⟨by simp,rfl,by simp,by simpa using hi,λe=>he (List.eq_nil_of_length_eq_zero (by rw[<-hlen];simp at e;rw[e];rfl)),by simp[hlen],?_,λk hk=>hr k (hmem' k hk),λk hk=>hu k (hmem' k hk),hdiff⟩;show zk (fAt ds (i:Nat)).lo (fAt ds (i:Nat)).hi m.1;unfold fAt;rw[Int.toNat_natCast];exact hasc
  obtain⟨M,hat⟩:=zFX h (n:=⟨false,i,m.1,k0::m.2⟩) (Or.inr I);refine⟨M,λc=> ?_,λ_=> ?_⟩
  ·rw[M.good.S_inner M.rng (by rw[hat];simp),hat];simp only[Int.toNat_natCast];rw[hp];refine M.S_old h (hr _ ?_) c;have hle:=zCs rest (c.getD i 0);exact zAf (by simp only[List.length_cons];omega)
  ·rw[hat];exact Int.le_refl _
end Go.Proofs.YtonmdbdopchkaaaGreatDoor
