/- Lemmas. -/
import Derived.Test.YtommaegelgilnaaGreatDoorM5
import Derived.StillTail
import Derived.Deep.RegionHeld3
import Derived.OrdersIn
import Derived.RangeFuncCalls
set_option linter.all false
namespace Go.Proofs.YtommaegelgilnaaGreatDoor
open Go.RowKit
variable {P:Program}{Q:Exit->Act->World->Prop}{R:Int->Int->Prop}{a:Act}{c l m:List Int}{ds:List zE}{fuel id j r s:Nat}{g:List zB}{hi i k lo:Int}{listed:Array Bool}{n:zB}{o oi:Oper}{ops:Array Oper}{v:Value}{w:World}
def zB9:zB:=⟨false,0,[],[]⟩
def nAt(g:List zB)(i:Int):zB:=g.getD i.toNat zB9
def Rng(g:List zB)(i:Int):Prop:=0<=i/\i<g.length
def zAP:zE:=⟨⟨#[]⟩,0,0,0⟩
def fAt(ds:List zE)(i:Int):zE:=ds.getD i.toNat zAP
def zAE(lo hi:Int):List Int->Prop
 |[]=>True
 |c::r=>lo<c/\c<=hi/\zAE c hi r
structure zDm (ds:List zE) (g:List zB) (n:zB):Prop where
 ne:n.kids≠[]
 leaf:n.leaf=false
 f0:0<=n.fact
 f1:n.fact<ds.length
 cuts:n.cuts≠[]
 len:n.kids.length=n.cuts.length+1
 asc:zAE (fAt ds n.fact).lo (fAt ds n.fact).hi n.cuts
 rng:∀k∈n.kids,Rng g k
 up:∀k∈n.kids,(nAt g k).kids ≠[]->n.fact<(nAt g k).fact
 diff:∀j,j+1<n.kids.length->n.kids.getD j 0≠n.kids.getD (j+1) 0
def zUV(n:zB):Prop:=n.kids=[]/\n.fact=0/\n.cuts=[]
def zFe(ds:List zE)(g:List zB)(n:zB):Prop:=zUV n\/zDm ds g n
structure Good (ds:List zE) (g:List zB):Prop where
 proper:∀n∈g,zFe ds g n
 nodup:g.Nodup
theorem zEj(h:Rng g i):nAt g i∈g:=by
 obtain⟨a,b⟩:=h;have:i.toNat<g.length:=by omega
 unfold nAt;rw[List.getD_eq_getElem?_getD,List.getElem?_eq_getElem this];exact List.getElem_mem this
theorem zCB{i:Nat}(h:i<g.length):nAt g i=g[i]:=by
 unfold nAt;rw[List.getD_eq_getElem?_getD,Int.toNat_natCast,List.getElem?_eq_getElem h];rfl
theorem zKD(h:g.Nodup){i j:Int}(hi:Rng g i)(c:Rng g j)(e:nAt g i=nAt g j):i=j:=by
 obtain⟨a,rfl⟩:=Int.eq_ofNat_of_zero_le hi.1;obtain⟨b,rfl⟩:=Int.eq_ofNat_of_zero_le c.1;have d:a<g.length:=by have:=hi.2;omega
 have f:b<g.length:=by have:=c.2;omega
 rw[zCB d,zCB f]at e;have:=(List.getElem_inj h).1 e;rw[this]
def nx:List Int->Int->Nat
 |[],_=>0
 |c::r,v=>if v<c then 0 else nx r v+1
theorem zEr(l:List Int)(v:Int):nx l v<=l.length:=by
 induction l with
 |nil=>exact Nat.le_refl _
 |cons c r ih=>unfold nx;split<;>simp<;>omega
theorem zNK(h:zAE lo hi l){v:Int}(a:v<=lo):nx l v=0:=by
 cases l with
 |nil=>rfl
 |cons c r=>unfold nx;rw[if_pos (by have:=h.1;omega)]
theorem zNL{lo a hi:Int}(h:zAE lo hi l)(b:a<=lo):zAE a hi l:=by
 cases l with
 |nil=>trivial
 |cons c r=>exact⟨by have:=h.1;omega,h.2.1,h.2.2⟩
theorem zBZ{lo hi:Int}:∀{l:List Int},zAE lo hi l->∀c∈l,lo<c/\c<=hi
 |[],_,_,h=>absurd h (by simp)
 |c::r,h,x,a=>by
  rcases List.mem_cons.1 a with rfl|a
  ·exact⟨h.1,h.2.1⟩
  have:=zBZ (zNL h.2.2 (Int.le_of_lt h.1)) x a;exact this
theorem zRB:∀{lo hi:Int}{l:List Int}{v:Int},zAE lo hi l->v∈l->nx l v=nx l (v-1)+1
 | _,_,[],_,_,h=>absurd h (by simp)
 |lo,hi,c::r,v,ha,h=>by
  unfold nx;rcases List.mem_cons.1 h with rfl|h
  ·rw[if_neg (by omega),if_pos (by omega),zNK ha.2.2 (Int.le_refl _)]
  have a:=(zBZ ha.2.2 v h).1;rw[if_neg (by omega),if_neg (by omega),zRB ha.2.2 h]
theorem zUA{v:Int}(h:v∉l):nx l v=nx l (v-1):=by
 induction l with
 |nil=>rfl
 |cons c r ih=>
 simp only[List.mem_cons,not_or]at h;unfold nx;by_cases a:v<c
 ·rw[if_pos a,if_pos (by omega)]
 rw[if_neg a,if_neg (by omega),ih h.2]
theorem zJU:∀{lo hi:Int}{l m:List Int},zAE lo hi l->zAE lo hi m->(∀v,v∈l↔v∈m)->l=m
 | _,_,[],[],_,_,_=>rfl
 | _,_,[],c::r,_,_,h=>absurd ((h c).2 (by simp)) (by simp)
 | _,_,c::r,[],_,_,h=>absurd ((h c).1 (by simp)) (by simp)
 |lo,hi,c::r,d::s,h1,h2,h=>by
  have e:c=d:=by
   rcases List.mem_cons.1 ((h c).1 (by simp))with e|e
   ·exact e
   rcases List.mem_cons.1 ((h d).2 (by simp))with e'|e'
   ·exact e'.symm
   have a:=(zBZ h1.2.2 d e').1;have b:=(zBZ h2.2.2 c e).1;omega
  subst e;rw[zJU h1.2.2 h2.2.2 (λv=> ?_)];constructor
  ·intro f;have:=(zBZ h1.2.2 v f).1;rcases List.mem_cons.1 ((h v).1 (List.mem_cons_of_mem _ f))with e|e
   ·omega
   exact e
  intro f;have:=(zBZ h2.2.2 v f).1;rcases List.mem_cons.1 ((h v).2 (List.mem_cons_of_mem _ f))with e|e
  ·omega
  exact e
def zXM(lo:Int)(l:List Int)(j:Nat):Int:=if j=0 then lo else l.getD (j-1) 0
theorem zFT{hi:Int}:∀{lo:Int}{l:List Int}{j:Nat},zAE lo hi l->j<=l.length->nx l (zXM lo l j)=j
 |lo,l,0,h,_=>by simp[zXM,zNK h (Int.le_refl _)]
 |lo,[],j+1,h,hj=>by simp at hj
 |lo,c::r,j+1,h,hj=>by
  have b:j<=r.length:=by simpa using hj
  have:=zFT h.2.2 b
  have d:c<=zXM c r j:=by
   unfold zXM;split
   ·exact Int.le_refl _
   (have a:j-1<r.length:=by omega);rw[List.getD_eq_getElem?_getD,List.getElem?_eq_getElem a];have:=(zBZ h.2.2 _ (List.getElem_mem a)).1;exact Int.le_of_lt this
  have e:zXM lo (c::r) (j+1)=zXM c r j:=by
   unfold zXM
   cases j with
   |zero=>simp
   |succ j=>simp
  rw[e];unfold nx;rw[if_neg (by omega),this]
theorem zLw(h:zAE lo hi l)(b:lo<=hi)(c:j<=l.length):lo<=zXM lo l j/\zXM lo l j<=hi:=by
 unfold zXM;split
 ·exact⟨Int.le_refl _,b⟩
 have a:j-1<l.length:=by omega
 rw[List.getD_eq_getElem?_getD,List.getElem?_eq_getElem a];have:=zBZ h _ (List.getElem_mem a);exact⟨Int.le_of_lt this.1,this.2⟩
def sem(g:List zB):Nat->Int->List Int->Bool
 |0,_,_=>false
 |k+1,i,c=>if(nAt g i).kids =[]then(nAt g i).leaf else sem g k ((nAt g i).kids.getD (nx (nAt g i).cuts (c.getD (nAt g i).fact.toNat 0)) 0) c
def zCS(ds:List zE)(g:List zB)(i:Int):Nat:=if(nAt g i).kids =[]then 0 else ds.length-(nAt g i).fact.toNat
def S(ds:List zE)(g:List zB)(i:Int)(c:List Int):Bool:=sem g (ds.length+1) i c
section good
variable {ds:List zE} {g:List zB}
theorem Good.inner(h:Good ds g)(hi:Rng g i)(a:(nAt g i).kids ≠[]):zDm ds g (nAt g i):=by
 rcases h.proper _ (zEj hi)with h|h
 ·exact absurd h.1 a
 exact h
theorem zDm.kid_rng(h:zDm ds g n)(v:Int):n.kids.getD (nx n.cuts v) 0∈n.kids:=by
 have b:=zEr n.cuts v;have c:=h.len;have a:nx n.cuts v<n.kids.length:=by omega
 rw[List.getD_eq_getElem?_getD,List.getElem?_eq_getElem a];exact List.getElem_mem a
theorem zDh(i:Int):zCS ds g i<=ds.length:=by unfold zCS;split<;>omega
theorem Good.rank_kid(h:Good ds g)(hi:Rng g i)(a:k∈(nAt g i).kids):Rng g k/\zCS ds g k<zCS ds g i:=by
 have b:(nAt g i).kids ≠[]:=by intro e;rw[e]at a;simp at a
 have I:=h.inner hi b;refine⟨I.rng k a,?_⟩;have u:=I.up k a;have d:=I.f0;have f:=I.f1;unfold zCS;rw[if_neg b];split
 ·omega
 rename_i hkk;have:=u hkk;have c:=h.inner (I.rng k a) hkk;have:=c.f1;omega
theorem Good.sem_fuel(h:Good ds g):∀(k a:Nat)(i:Int)(c:List Int),Rng g i->zCS ds g i<k->zCS ds g i<a->sem g k i c=sem g a i c
 |0,_,_,_,_,h1,_=>by omega
 | _+1,0,_,_,_,_,h2=>by omega
 |k+1,a+1,i,c,hi,h1,h2=>by
  unfold sem;split
  ·rfl
  rename_i hne;have b:=(h.inner hi hne).kid_rng (c.getD (nAt g i).fact.toNat 0);have:=h.rank_kid hi b;exact h.sem_fuel k a _ c this.1 (by omega) (by omega)
theorem Good.S_leaf(b:Good ds g)(a:(nAt g i).kids =[])(c:List Int):S ds g i c=(nAt g i).leaf :=by
 unfold S sem;rw[if_pos a]
theorem Good.S_inner(h:Good ds g)(hi:Rng g i)(a:(nAt g i).kids ≠[])(c:List Int):
  S ds g i c=S ds g ((nAt g i).kids.getD (nx (nAt g i).cuts (c.getD (nAt g i).fact.toNat 0)) 0) c:=by
 have b:=(h.inner hi a).kid_rng (c.getD (nAt g i).fact.toNat 0);have:=h.rank_kid hi b;have d:=zDh (ds:=ds) (g:=g) i
 conv=>lhs;unfold S sem
 rw[if_neg a];exact h.sem_fuel _ _ _ c this.1 (by omega) (by omega)
theorem Good.S_indep(h:Good ds g):∀(r:Nat)(i:Int),zCS ds g i<=r->Rng g i->∀(lo:Nat)(c a:List Int),((nAt g i).kids ≠[]->(lo:Int)<=(nAt g i).fact)->(∀j,lo<=j->c.getD j 0=a.getD j 0)->S ds g i c=S ds g i a
 |r,i,hr,hi,lo,c,a,hl,hc=>by
  by_cases b:(nAt g i).kids =[]
  ·rw[h.S_leaf b,h.S_leaf b]
  have I:=h.inner hi b;have k:=hl b;rw[h.S_inner hi b,h.S_inner hi b a,hc (nAt g i).fact.toNat (by omega)];have f:=I.kid_rng (a.getD (nAt g i).fact.toNat 0);have e:=h.rank_kid hi f
  cases r with
  |zero=>omega
  |succ r=>
  refine h.S_indep r _ (by omega) e.1 lo c a (λd=> ?_) hc;have:=I.up _ f d;omega
end good
def Fit(ds:List zE)(c:List Int):Prop:=c.length=ds.length/\∀j,j<ds.length->(ds.getD j zAP).lo <=c.getD j 0/\c.getD j 0<=(ds.getD j zAP).hi
def zDt(ds:List zE):Prop:=∀j,j<ds.length->(ds.getD j zAP).lo <=(ds.getD j zAP).hi
theorem zDu(l:List Int)(i j:Nat)(v:Int):(l.set i v).getD j 0=if i=j/\j<l.length then v else l.getD j 0:=by
 rw[List.getD_eq_getElem?_getD,List.getElem?_set,List.getD_eq_getElem?_getD];by_cases h:i=j
 ·subst h;by_cases a:i<l.length
  ·rw[if_pos rfl,if_pos a,if_pos ⟨rfl,a⟩];rfl
  rw[if_pos rfl,if_neg a,if_neg (λe=>a e.2),List.getElem?_eq_none (by omega)]
 rw[if_neg h,if_neg (λe=>h e.1)]
theorem Fit.set_(h:Fit ds c){v:Int}(a:(ds.getD j zAP).lo <=v)(b:v<=(ds.getD j zAP).hi):Fit ds (c.set j v):=by
 refine⟨by simp[h.1],λi hi=> ?_⟩;rw[zDu];split
 ·rename_i e;rw[<-e.1];exact⟨a,b⟩
 exact h.2 i hi
theorem zDt.least(h:zDt ds):Fit ds (ds.map zE.lo):=by
 refine⟨by simp,λj a=> ?_⟩
 have e:(ds.map zE.lo).getD j 0=(ds.getD j zAP).lo :=by
  simp[List.getD_eq_getElem?_getD,List.getElem?_eq_getElem a]
 rw[e];exact⟨Int.le_refl _,h j a⟩
def EqS(ds:List zE)(g1 g2:List zB)(i1 i2:Int):Prop:=∀c,Fit ds c->S ds g1 i1 c=S ds g2 i2 c
def zNM(ds:List zE)(g:List zB)(r:Nat):Prop:=∀a b,Rng g a->Rng g b->zCS ds g a<r->zCS ds g b<r->EqS ds g g a b->a=b
section canon
variable {ds:List zE} {g g1 g2:List zB}
theorem Good.S_kid(h:Good ds g)(hi:Rng g i)(e:(nAt g i).kids ≠[])(k:Fit ds c){v:Int}:
  S ds g i (c.set (nAt g i).fact.toNat v)=S ds g ((nAt g i).kids.getD (nx (nAt g i).cuts v) 0) c:=by
 have I:=h.inner hi e;have m:=I.f0;have n:=I.f1;have b:(nAt g i).fact.toNat <c.length:=by rw[k.1];omega
 rw[h.S_inner hi e,zDu,if_pos ⟨rfl,b⟩];have f:=I.kid_rng v;have d:=h.rank_kid hi f;refine h.S_indep _ _ (Nat.le_refl _) d.1 ((nAt g i).fact.toNat +1) _ _ (λa=> ?_) (λj o=> ?_)
 ·have:=I.up _ f a;omega
 rw[zDu,if_neg (by omega)]
theorem zDm.kid_mem(h:zDm ds g n)(c:j<=n.cuts.length):n.kids.getD j 0∈n.kids:=by
 have b:=h.len;have a:j<n.kids.length:=by omega
 rw[List.getD_eq_getElem?_getD,List.getElem?_eq_getElem a];exact List.getElem_mem a
theorem zDm.fact_rng(h:zDm ds g n):n.fact.toNat<ds.length:=by have:=h.f0;have:=h.f1;omega
theorem Good.start_fit(h:Good ds g)(c:zDt ds)(hi:Rng g i)(b:(nAt g i).kids ≠[])(a:j<=(nAt g i).cuts.length):
  (ds.getD (nAt g i).fact.toNat zAP).lo <=zXM (fAt ds (nAt g i).fact).lo (nAt g i).cuts j/\zXM (fAt ds (nAt g i).fact).lo (nAt g i).cuts j<=(ds.getD (nAt g i).fact.toNat zAP).hi :=by
 have I:=h.inner hi b;exact zLw I.asc (c _ I.fact_rng) a
theorem Good.depends(h:Good ds g)(n:zDt ds)(A:zNM ds g r)(hi:Rng g i)(e:(nAt g i).kids ≠[])(x:zCS ds g i<=r)
  (d:∀c v,Fit ds c->Fit ds (c.set (nAt g i).fact.toNat v)->S ds g i (c.set (nAt g i).fact.toNat v)=S ds g i c):False:=by
 have I:=h.inner hi e;have b:1<=(nAt g i).cuts.length :=by have:=I.cuts;cases a:(nAt g i).cuts with|nil=>exact absurd a this|cons=>simp
 have m:=I.diff 0 (by have:=I.len;omega);have s:=I.kid_mem (j:=0) (by omega);have t:=I.kid_mem (j:=1) b;have u:=h.rank_kid hi s;have w:=h.rank_kid hi t;simp only[Nat.zero_add]at m;refine m (A _ _ u.1 w.1 (by omega) (by omega) λc a=> ?_);have o:=h.start_fit n hi e (j:=0) (by omega);have q:=h.start_fit n hi e (j:=1) b;have f:=h.S_kid hi e a (v:=zXM (fAt ds (nAt g i).fact).lo (nAt g i).cuts 0);have k:=h.S_kid hi e a (v:=zXM (fAt ds (nAt g i).fact).lo (nAt g i).cuts 1);rw[zFT I.asc (by omega)]at f;rw[zFT I.asc b]at k;rw[<-f,<-k,d c _ a (a.set_ o.1 o.2),d c _ a (a.set_ q.1 q.2)]
theorem Good.indep_set(h:Good ds g)(hi:Rng g i){f:Int}(d:0<=f)(b:(nAt g i).kids ≠[]->f<(nAt g i).fact)(c:List Int)(v:Int):S ds g i (c.set f.toNat v)=S ds g i c:=by
 refine h.S_indep _ _ (Nat.le_refl _) hi (f.toNat+1) _ _ (λa=> ?_) (λj e=> ?_)
 ·have:=b a;omega
 rw[zDu,if_neg (by omega)]
structure Alike (ds:List zE) (g1 g2:List zB) (i1 i2:Int):Prop where
 leaf:(nAt g1 i1).leaf =(nAt g2 i2).leaf
 fact:(nAt g1 i1).fact =(nAt g2 i2).fact
 cuts:(nAt g1 i1).cuts =(nAt g2 i2).cuts
 len:(nAt g1 i1).kids.length =(nAt g2 i2).kids.length
 kids:∀j,j<(nAt g1 i1).kids.length ->EqS ds g1 g2 ((nAt g1 i1).kids.getD j 0) ((nAt g2 i2).kids.getD j 0)
theorem Good.cut_iff(h:Good ds g)(o:zDt ds)(A:zNM ds g r)(hi:Rng g i)(d:(nAt g i).kids ≠[])(y:zCS ds g i<=r){v:Int}
  (j:(fAt ds (nAt g i).fact).lo <v)(k:v<=(fAt ds (nAt g i).fact).hi):
  v∈(nAt g i).cuts ↔¬∀c,Fit ds c->S ds g i (c.set (nAt g i).fact.toNat (v-1))=S ds g i (c.set (nAt g i).fact.toNat v):=by
 have I:=h.inner hi d;constructor
 ·intro f b;have e:=zRB I.asc f;have q:=zEr (nAt g i).cuts v;have n:=I.len;have m:=I.diff (nx (nAt g i).cuts (v-1)) (by omega);have t:=I.kid_rng (v-1);have u:=I.kid_rng v;have w:=h.rank_kid hi t;have x:=h.rank_kid hi u;rw[<-e]at m;refine m (A _ _ w.1 x.1 (by omega) (by omega) λc a=> ?_);rw[<-h.S_kid hi d a,<-h.S_kid hi d a];exact b c a
 intro s;by_cases f:v∈(nAt g i).cuts
 ·exact f
 exact absurd (λc a=>by rw[h.S_kid hi d a,h.S_kid hi d a,zUA f]) s
theorem zJ8(y:zDt ds)(u:Good ds g1)(w:Good ds g2)(H:zNM ds g1 r)(J:zNM ds g2 r){i t:Int}(m:Rng g1 i)(n:Rng g2 t)
  (B:zCS ds g1 i<=r)(C:zCS ds g2 t<=r)(he:EqS ds g1 g2 i t):Alike ds g1 g2 i t:=by
 by_cases d:(nAt g1 i).kids =[]
 ·by_cases f:(nAt g2 t).kids =[]
  ·rcases u.proper _ (zEj m)with⟨_,G,b1⟩|h
   ·rcases w.proper _ (zEj n)with⟨_,x,b2⟩|h
    ·have:=he _ y.least;rw[u.S_leaf d,w.S_leaf f]at this;exact⟨this,by rw[G,x],by rw[b1,b2],by rw[d,f],λj L=>by rw[d]at L;simp at L⟩
    exact absurd f h.ne
   exact absurd d h.ne
  exfalso;have I:=w.inner n f;refine w.depends y J n f C λc v g q=> ?_
  rw[<-he _ g,<-he _ q];exact u.indep_set m I.f0 (λh=>absurd d h) c v
 have z:=u.inner m d;by_cases f:(nAt g2 t).kids =[]
 ·exfalso;refine u.depends y H m d B λc v g q=> ?_
  rw[he _ g,he _ q];exact w.indep_set n z.f0 (λh=>absurd f h) c v
 have F:=w.inner n f
 have D:(nAt g1 i).fact =(nAt g2 t).fact :=by
  rcases Int.lt_trichotomy (nAt g1 i).fact (nAt g2 t).fact with N|e|K
  ·exfalso;(refine u.depends y H m d B λc v g q=> ?_);rw[he _ g,he _ q];exact w.indep_set n z.f0 (λ_=>N) c v
  ·exact e
  exfalso;refine w.depends y J n f C λc v g q=> ?_
  rw[<-he _ g,<-he _ q];exact u.indep_set m F.f0 (λ_=>K) c v
 have o:∀c v,Fit ds c->(fAt ds (nAt g1 i).fact).lo <=v->v<=(fAt ds (nAt g1 i).fact).hi ->S ds g1 i (c.set (nAt g1 i).fact.toNat v)=S ds g2 t (c.set (nAt g2 t).fact.toNat v):=by
  intro c v g a b;rw[<-D];exact he _ (g.set_ a b)
 have k:(nAt g1 i).cuts =(nAt g2 t).cuts :=by
  have G:=z.asc;have x:=F.asc;rw[<-D]at x;refine zJU G x λv=> ?_
  by_cases E:(fAt ds (nAt g1 i).fact).lo <v/\v<=(fAt ds (nAt g1 i).fact).hi
  ·rw[u.cut_iff y H m d B E.1 E.2,w.cut_iff y J n f C (by rw[<-D];exact E.1) (by rw[<-D];exact E.2)];refine not_congr ⟨λh c g=> ?_,λh c g=> ?_⟩
   ·rw[<-o c _ g (by omega) (by omega),<-o c _ g (by omega) (by omega)];exact h c g
   rw[o c _ g (by omega) (by omega),o c _ g (by omega) (by omega)];exact h c g
  exact⟨λh=>absurd (zBZ G v h) E,λh=>absurd (zBZ x v h) E⟩
 refine⟨by rw[z.leaf,F.leaf],D,k,by rw[z.len,F.len,k],λj L c g=> ?_⟩;have A:j<=(nAt g1 i).cuts.length :=by have:=z.len;omega
 have M:j<=(nAt g2 t).cuts.length :=by rw[<-k];exact A
 have s:=u.start_fit y m d A;have O:=u.S_kid m d g (v:=zXM (fAt ds (nAt g1 i).fact).lo (nAt g1 i).cuts j);have P:=w.S_kid n f g (v:=zXM (fAt ds (nAt g1 i).fact).lo (nAt g1 i).cuts j);have Q:=o c _ g s.1 s.2;rw[zFT z.asc A]at O;have x:=F.asc;rw[<-D]at x;rw[show nx (nAt g2 t).cuts (zXM (fAt ds (nAt g1 i).fact).lo (nAt g1 i).cuts j)=j by rw[k];exact zFT x M]at P;rw[<-O,<-P,Q]
theorem zB.ext'{a b:zB}(c:a.leaf=b.leaf)(d:a.fact=b.fact)(e:a.cuts=b.cuts)(f:a.kids=b.kids):a=b:=by
 cases a;cases b;simp at c d e f;subst c d e f;rfl
theorem zFt(h:l.length=m.length)(c:∀j,j<l.length->l.getD j 0=m.getD j 0):l=m:=by
 apply List.ext_getElem h;intro i a b;have:=c i a;simpa[List.getD_eq_getElem?_getD,List.getElem?_eq_getElem a,List.getElem?_eq_getElem b]using this
theorem zBa(a:j<l.length):l.getD j 0∈l:=by
 rw[List.getD_eq_getElem?_getD,List.getElem?_eq_getElem a];exact List.getElem_mem a
theorem Good.uniq_all(f:zDt ds)(h:Good ds g):∀r,zNM ds g r
 |0=>λ_ _ _ _ o _ _=>by omega
 |r+1=>λa b c d i k he=>by
  have A:=Good.uniq_all f h r;have K:=zJ8 f h h A A c d (by omega) (by omega) he;refine zKD h.nodup c d (zB.ext' K.leaf K.fact K.cuts (zFt K.len λj e=> ?_));have m:=h.rank_kid c (zBa e);have n:=h.rank_kid d (zBa (K.len▸e));exact A _ _ m.1 n.1 (by omega) (by omega) (K.kids j e)
theorem Good.uniq(e:zDt ds)(h:Good ds g){a b:Int}(c:Rng g a)(d:Rng g b)(he:EqS ds g g a b):a=b:=
 h.uniq_all e (ds.length+1) a b c d (by have:=zDh (ds:=ds) (g:=g) a;omega) (by have:=zDh (ds:=ds) (g:=g) b;omega) he
theorem Good.alike(c:zDt ds)(d:Good ds g1)(e:Good ds g2){a b:Int}(f:Rng g1 a)(g:Rng g2 b)(he:EqS ds g1 g2 a b):Alike ds g1 g2 a b:=
 zJ8 c d e (d.uniq_all c ds.length) (e.uniq_all c ds.length) f g (zDh _) (zDh _) he
end canon
section
variable {P:Program} {ops:Array Oper} {Q:Exit->Act->World->Prop} {md:Region.Mode} {S:World->Prop} {s:Nat}
def wpAnyS(P:Program)(md:Region.Mode)(ops:Array Oper)(Q:Exit->Act->World->Prop)(S:World->Prop)(s:Nat):Nat->Array Bool->Act->World->Prop
 |0,listed,a,w=>Region.ready md ops listed=[]/\Q .normal a w
 |fuel+1,listed,a,w=>
 (Region.ready md ops listed=[]->Q .normal a w)/\
 ∀i∈Region.ready md ops listed,wpOp P ops Q i (λa' w'=>((listed.setIfInBounds i true).getD s true=true\/S w')/\wpAnyS P md ops Q S s fuel (listed.setIfInBounds i true) a' w') a w
theorem zHd:∀(fuel:Nat)(listed:Array Bool)(a:Act)(w:World),wpAnyS P md ops Q S s fuel listed a w->wpAny P md ops Q fuel listed a w
 |0,_,_,_,h=>h
 |fuel+1,_,_,_,h=>⟨h.1,λi hi=>wpOp_mono (λb d c=>zHd fuel _ b d c.2) (h.2 i hi)⟩
theorem wpAnyS_first{i:Nat}(hi:ops[i]? =some oi)(t:∀(j:Nat)(o:Oper) cs b,ops[j]? =some o->o.op≠ .select cs b)
  (hQ:∀c a w,Q (.panic c) (a.put oi.dst v) w->Q (.panic c) a w)(y:∃os,ops[s]? =some os/\∃e∈os.after,Region.binds md e=true/\e.on=i)(V:i≠s):
  ∀(fuel:Nat)(listed:Array Bool)(a:Act)(w:World),listed.getD s true=false->
   (∀j z,ops[j]? =some z->j≠i->listed.getD j true=false->(∀e∈z.after,Region.binds md e=true->e.on≠i)->oi.apart ops z=true)->
   i∈Region.ready md ops listed->YieldsIf P ops S oi v a->S w->
   wpAnyS P md ops Q S s fuel (listed.setIfInBounds i true) (a.put oi.dst v) w->wpAnyS P md ops Q S s (fuel+1) listed a w:=by
 intro fuel
 induction fuel with
 |zero=>
  intro listed a w _ _ x J A H;refine⟨λh=>(by rw[h]at x;cases x),λj I=> ?_⟩;by_cases d:j=i
  ·subst d;exact J.wpOp hi A ⟨Or.inr A,H⟩
  have:=ready_mono I d;rw[H.1]at this;cases this
 |succ fuel ih=>
 intro listed a w F g x J A H;refine⟨λh=>(by rw[h]at x;cases x),λj I=> ?_⟩;by_cases d:j=i
 ·subst d;exact J.wpOp hi A ⟨Or.inr A,H⟩
 have u:=H.2 j (ready_mono I d);obtain⟨n,z,f,C⟩:=mem_ready.1 I
 have q:∀e∈z.after,Region.binds md e=true->e.on≠i:=λe he M N=>by
  have u:=C e he M;have W:=(mem_ready.1 x).1;rw[N]at u;rcases Nat.lt_or_ge i listed.size with K|K
  ·simp[K]at W u;rw[W]at u;cases u
  simp[Array.getElem?_eq_none K]at u
 have E:j≠s:=λe=>by
  subst e;obtain⟨os,U,e,he,M,T⟩:=y;rw[U]at f;injection f with f;subst f;exact q e he M T
 have Z:=wpOp_putIf f (g j z f d n q) (λcs b=>t i oi cs b hi) (λcs b=>t j z cs b f) hQ J u
 have m:∀k ok,ops[k]? =some ok->k≠i->(listed.setIfInBounds j true).getD k true=false->
   (∀e∈ok.after,Region.binds md e=true->e.on≠i)->oi.apart ops ok=true:=λk ok hk O G R=>by
  refine g k ok hk O ?_ R;by_cases D:j=k
  ·subst D;exact n
  rw[getD_set_ne true D]at G;exact G
 refine wpOp_mono (λY X L=> ?_) Z
 have B:S X:=by
  rcases L.2.1 with h|h
  ·rw[getD_set_ne true E,getD_set_ne true V,F]at h;cases h
  exact h
 refine⟨Or.inr B,ih (listed.setIfInBounds j true) Y X (by rw[getD_set_ne true E];exact F) m (ready_mono x (Ne.symm d)) L.1 B ?_⟩;rw[Array.setIfInBounds_comm _ _ d];exact L.2.2
theorem zOW{i:Nat}(hi:ops[i]? =some oi)
  (n:Region.noSelect ops=true)(b:(Region.free md ops listed i&&(Region.ready md ops listed).contains i&&Region.waitsFor md ops s i&& !(listed.getD s true)&&(i !=s))=true)
  (k:∀c a w,Q (.panic c) (a.put oi.dst v) w->Q (.panic c) a w)(o:YieldsIf P ops S oi v a)(m:S w)
  (h:wpAnyS P md ops Q S s fuel (listed.setIfInBounds i true) (a.put oi.dst v) w):wpAnyS P md ops Q S s (fuel+1) listed a w:=by
 simp only[Bool.and_eq_true,Bool.not_eq_true',bne_iff_ne]at b;obtain⟨⟨⟨⟨d,e⟩,f⟩,g⟩,j⟩:=b;exact wpAnyS_first hi (Region.noSelect_spec n) k (Region.waitsFor_spec f) j fuel listed a w g (Region.free_spec hi d) (by simpa using e) o m h
theorem zMm{i:Nat}(hi:ops[i]? =some oi)(n:∀(j:Nat)(o:Oper) cs b,ops[j]? =some o->o.op≠ .select cs b)
  (U:∀c a w,Q (.panic c) (a.put oi.dst v) w->Q (.panic c) a w)(x:i≠s):
  ∀(fuel:Nat)(listed:Array Bool)(a:Act)(w:World),
   (∀j y,ops[j]? =some y->j≠i->listed.getD j true=false->(∀e∈y.after,Region.binds md e=true->e.on≠i)->oi.apart ops y=true)->
   i∈Region.ready md ops listed->YieldsIf P ops (λ_=>True) oi v a->(listed.getD s true=true\/S w)->
   wpAnyS P md ops Q S s fuel (listed.setIfInBounds i true) (a.put oi.dst v) w->wpAnyS P md ops Q S s (fuel+1) listed a w:=by
 intro fuel
 induction fuel with
 |zero=>
  intro listed a w _ u F J H;refine⟨λh=>(by rw[h]at u;cases u),λj E=> ?_⟩;by_cases d:j=i
  ·subst d;exact F.wpOp hi trivial ⟨by rw[getD_set_ne true x];exact J,H⟩
  have:=ready_mono E d;rw[H.1]at this;cases this
 |succ fuel ih=>
 intro listed a w f u F J H;refine⟨λh=>(by rw[h]at u;cases u),λj E=> ?_⟩;by_cases d:j=i
 ·subst d;exact F.wpOp hi trivial ⟨by rw[getD_set_ne true x];exact J,H⟩
 have q:=H.2 j (ready_mono E d);obtain⟨m,y,t,A⟩:=mem_ready.1 E
 have C:∀e∈y.after,Region.binds md e=true->e.on≠i:=λe he V K=>by
  have q:=A e he V;have N:=(mem_ready.1 u).1;rw[K]at q;rcases Nat.lt_or_ge i listed.size with G|G
  ·simp[G]at N q;rw[N]at q;cases q
  simp[Array.getElem?_eq_none G]at q
 have T:=wpOp_putIf t (f j y t d m C) (λcs b=>n i oi cs b hi) (λcs b=>n j y cs b t) U F q
 have g:∀k ok,ops[k]? =some ok->k≠i->(listed.setIfInBounds j true).getD k true=false->
   (∀e∈ok.after,Region.binds md e=true->e.on≠i)->oi.apart ops ok=true:=λk ok W L D M=>by
  refine f k ok W L ?_ M;by_cases B:j=k
  ·subst B;exact m
  rw[getD_set_ne true B]at D;exact D
 refine wpOp_mono (λR O I=> ?_) T
 have z:(listed.setIfInBounds j true).getD s true=true\/S O:=by
  have:=I.2.1;rw[Array.setIfInBounds_comm _ _ (Ne.symm d),getD_set_ne true x]at this;exact this
 refine⟨z,ih (listed.setIfInBounds j true) R O g (ready_mono u (Ne.symm d)) I.1 z ?_⟩;rw[Array.setIfInBounds_comm _ _ d];exact I.2.2
theorem zGZ{i:Nat}(hi:ops[i]? =some oi)
  (k:Region.noSelect ops=true)(b:(Region.free md ops listed i&&(Region.ready md ops listed).contains i&&(i !=s))=true)
  (g:∀c a w,Q (.panic c) (a.put oi.dst v) w->Q (.panic c) a w)(m:YieldsIf P ops (λ_=>True) oi v a)(j:listed.getD s true=true\/S w)
  (h:wpAnyS P md ops Q S s fuel (listed.setIfInBounds i true) (a.put oi.dst v) w):wpAnyS P md ops Q S s (fuel+1) listed a w:=by
 simp only[Bool.and_eq_true,bne_iff_ne]at b;obtain⟨⟨d,e⟩,f⟩:=b;exact zMm hi (Region.noSelect_spec k) g f fuel listed a w (Region.free_spec hi d) (by simpa using e) m j h
theorem zOX(b:Region.ready md ops listed=[])(h:Q .normal a w):∀fuel,wpAnyS P md ops Q S s fuel listed a w
 |0=>⟨b,h⟩
 | _+1=>⟨λ_=>h,by rw[b];simp⟩
theorem zP2{i:Nat}(e:Region.ready md ops listed=[i])(m:ops[i]? =some o)(k:o.guard=none)
  (h:∀K:Act->World->Prop,(∀b w',((listed.setIfInBounds i true).getD s true=true\/S w')->wpAnyS P md ops Q S s fuel (listed.setIfInBounds i true) b w'->K b w')->Oper.wp P o a w K Q):wpAnyS P md ops Q S s (fuel+1) listed a w:=by
 refine⟨λd=>(by rw[e]at d;cases d),λj c=> ?_⟩;rw[e]at c;simp at c;subst c;unfold wpOp;rw[m];simp only;rw[if_pos (by simp[Region.wanted,k])];exact Or.inl (h _ λb w' f g=>⟨f,g⟩)
theorem zP3{i j:Nat}{o o':Oper}(m:Region.ready md ops listed=[i,j])(u:ops[i]? =some o)(t:o.guard=none)(f:ops[j]? =some o')(e:o'.guard=none)
  (h:∀K:Act->World->Prop,(∀b w',((listed.setIfInBounds i true).getD s true=true\/S w')->wpAnyS P md ops Q S s fuel (listed.setIfInBounds i true) b w'->K b w')->Oper.wp P o a w K Q)
  (n:∀K:Act->World->Prop,(∀b w',((listed.setIfInBounds j true).getD s true=true\/S w')->wpAnyS P md ops Q S s fuel (listed.setIfInBounds j true) b w'->K b w')->Oper.wp P o' a w K Q):wpAnyS P md ops Q S s (fuel+1) listed a w:=by
 refine⟨λk=>(by rw[m]at k;cases k),λq g=> ?_⟩;rw[m]at g;simp at g;rcases g with rfl|rfl
 ·unfold wpOp;rw[u];simp only;rw[if_pos (by simp[Region.wanted,t])];exact Or.inl (h _ λb w' c d=>⟨c,d⟩)
 unfold wpOp;rw[f];simp only;rw[if_pos (by simp[Region.wanted,e])];exact Or.inl (n _ λb w' c d=>⟨c,d⟩)
theorem zY(s:Nat)(S:World->Prop)(b:P.follows .mixedOrders =true)(h:wpAnyS P .any ops Q S s ops.size (Array.replicate ops.size false) a w.drew):(Code.region id ops true).wp P Q a w:=
 wp_region_any b (zHd _ _ _ _ h)
theorem tkS(i:Nat)(v:Value)(d:S w)(j:∀w,S w->(execOp a.eval oi).run P w= .ok (.value v) w)
  (h:wpAnyS P md ops Q S s fuel (listed.setIfInBounds i true) (a.put oi.dst v) w)(hi:ops[i]? =some oi:=by exact rfl)(g:Region.noSelect ops=true:=by kernel_rfl)
  (e:(Region.free md ops listed i&&(Region.ready md ops listed).contains i&&Region.waitsFor md ops s i&& !(listed.getD s true)&&(i !=s))=true:=by kernel_rfl)
  (f:Region.wanted oi (yielded ops a.tmps)=true:=by kernel_rfl)(b:∀c a w,Q (.panic c) (a.put oi.dst v) w->Q (.panic c) a w:=by exact λ_ _ _ h=>h):wpAnyS P md ops Q S s (fuel+1) listed a w:=
 zOW hi g e b (Or.inl ⟨f,j⟩) d h
theorem tkZ(i:Nat)(v:Value)(d:S w)(j:∀w,(execOp a.eval oi).run P w= .ok (.value v) w)
  (h:wpAnyS P md ops Q S s fuel (listed.setIfInBounds i true) (a.put oi.dst v) w)(hi:ops[i]? =some oi:=by exact rfl)(g:Region.noSelect ops=true:=by kernel_rfl)
  (e:(Region.free md ops listed i&&(Region.ready md ops listed).contains i&&(i !=s))=true:=by kernel_rfl)
  (f:Region.wanted oi (yielded ops a.tmps)=true:=by kernel_rfl)(b:∀c a w,Q (.panic c) (a.put oi.dst v) w->Q (.panic c) a w:=by exact λ_ _ _ h=>h):wpAnyS P md ops Q S s (fuel+1) listed a w:=
 zGZ hi g e b (Or.inl ⟨f,λw _=>j w⟩) (Or.inr d) h
theorem tkQ(i:Nat)(d:S w)
  (h:wpAnyS P md ops Q S s fuel (listed.setIfInBounds i true) (a.put oi.dst v) w)(hi:ops[i]? =some oi:=by exact rfl)(g:Region.noSelect ops=true:=by kernel_rfl)
  (e:(Region.free md ops listed i&&(Region.ready md ops listed).contains i&&(i !=s))=true:=by kernel_rfl)
  (f:Region.wanted oi (yielded ops a.tmps)=true:=by kernel_rfl)(b:∀c a w,Q (.panic c) (a.put oi.dst v) w->Q (.panic c) a w:=by exact λ_ _ _ h=>h)
  (j:∀w,(execOp a.eval oi).run P w= .ok (.value v) w:=by intro w;go_simp;try with_reducible rfl):wpAnyS P md ops Q S s (fuel+1) listed a w:=
 zGZ hi g e b (Or.inl ⟨f,λw _=>j w⟩) (Or.inr d) h
theorem wSd(h:Q .normal a w)(fuel:Nat)(b:Region.ready md ops listed=[]:=by kernel_rfl):wpAnyS P md ops Q S s fuel listed a w:=zOX b h fuel
theorem wS1(i:Nat)
  (h:∀K:Act->World->Prop,(∀b w',((listed.setIfInBounds i true).getD s true=true\/S w')->wpAnyS P md ops Q S s fuel (listed.setIfInBounds i true) b w'->K b w')->Oper.wp P o a w K Q)
  (e:Region.ready md ops listed=[i]:=by kernel_rfl)(d:ops[i]? =some o:=by exact rfl)(c:o.guard=none:=by exact rfl):wpAnyS P md ops Q S s (fuel+1) listed a w:=zP2 e d c h
theorem wS2(i j:Nat){o o':Oper}
  (h:∀K:Act->World->Prop,(∀b w',((listed.setIfInBounds i true).getD s true=true\/S w')->wpAnyS P md ops Q S s fuel (listed.setIfInBounds i true) b w'->K b w')->Oper.wp P o a w K Q)
  (e:∀K:Act->World->Prop,(∀b w',((listed.setIfInBounds j true).getD s true=true\/S w')->wpAnyS P md ops Q S s fuel (listed.setIfInBounds j true) b w'->K b w')->Oper.wp P o' a w K Q)
  (k:Region.ready md ops listed=[i,j]:=by kernel_rfl)(g:ops[i]? =some o:=by exact rfl)(f:o.guard=none:=by exact rfl)(d:ops[j]? =some o':=by exact rfl)(c:o'.guard=none:=by exact rfl):
  wpAnyS P md ops Q S s (fuel+1) listed a w:=zP3 k g f d c h e
end
theorem tkN{b:Region.Mode}{S:World->Prop}(i:Nat)(e:S w)
  (h:wpAnyS P b ops Q S s fuel (listed.setIfInBounds i true) (a.put oi.dst undef) w)(hi:ops[i]? =some oi:=by exact rfl)(j:Region.noSelect ops=true:=by kernel_rfl)
  (f:(Region.free b ops listed i&&(Region.ready b ops listed).contains i&&(i !=s))=true:=by kernel_rfl)
  (g:Region.wanted oi (yielded ops a.tmps)=false:=by kernel_rfl)(d:∀c a w,Q (.panic c) (a.put oi.dst undef) w->Q (.panic c) a w:=by exact λ_ _ _ h=>h):wpAnyS P b ops Q S s (fuel+1) listed a w:=
 zGZ hi j f d (Or.inr ⟨g,rfl⟩) (Or.inr e) h
def zPG(md:Region.Mode)(ops:Array Oper)(listed:Array Bool)(L:List Nat)(i s:Nat):Bool:=
 L.all (λj=>(Region.waitsFor md ops j i||L.any (λk=>Region.waitsFor md ops j k))&& !(listed.getD j true)&&(j !=i))&&L.contains s
theorem zMn{y:Region.Mode}{S:World->Prop}{s i:Nat}(L:List Nat)(hi:ops[i]? =some oi)(x:∀(j:Nat)(o:Oper) cs b,ops[j]? =some o->o.op≠ .select cs b)
  (hQ:∀c a w,Q (.panic c) (a.put oi.dst v) w->Q (.panic c) a w)(hL:∀j∈L,j≠i/\∃k,(k=i\/k∈L)/\∃os,ops[j]? =some os/\∃e∈os.after,Region.binds y e=true/\e.on=k)(D:s∈L):
  ∀(fuel:Nat)(listed:Array Bool)(a:Act)(w:World),(∀j∈L,listed.getD j true=false)->
   (∀j z,ops[j]? =some z->j≠i->listed.getD j true=false->(∀e∈z.after,Region.binds y e=true->e.on≠i)->oi.apart ops z=true)->
   i∈Region.ready y ops listed->YieldsIf P ops S oi v a->S w->
   wpAnyS P y ops Q S s fuel (listed.setIfInBounds i true) (a.put oi.dst v) w->wpAnyS P y ops Q S s (fuel+1) listed a w:=by
 intro fuel;have Z:i≠s:=λe=>(hL s D).1 e.symm
 induction fuel with
 |zero=>
  intro listed a w _ _ C M E H;refine⟨λh=>(by rw[h]at C;cases C),λj K=> ?_⟩;by_cases d:j=i
  ·subst d;exact M.wpOp hi E ⟨Or.inr E,H⟩
  have:=ready_mono K d;rw[H.1]at this;cases this
 |succ fuel ih=>
 intro listed a w B g C M E H;refine⟨λh=>(by rw[h]at C;cases C),λj K=> ?_⟩;by_cases d:j=i
 ·subst d;exact M.wpOp hi E ⟨Or.inr E,H⟩
 have A:=H.2 j (ready_mono K d);obtain⟨u,z,f,G⟩:=mem_ready.1 K
 have m:∀k,(k=i\/k∈L)->∀e∈z.after,Region.binds y e=true->e.on≠k:=λk n e he R T=>by
  have A:=G e he R
  have h0:listed.getD k true=false:=by
   rcases n with rfl|n
   ·exact(mem_ready.1 C).1
   exact B k n
  rw[T]at A;rcases Nat.lt_or_ge k listed.size with N|N
  ·simp[N]at h0 A;rw[h0]at A;cases A
  simp[Array.getElem?_eq_none N]at A
 have J:∀e∈z.after,Region.binds y e=true->e.on≠i:=m i (Or.inl rfl)
 have I:j∉L:=λh=>by
  obtain⟨_,k,n,os,Y,e,he,R,X⟩:=hL j h;rw[Y]at f;injection f with f;subst f;exact m k n e he R X
 have U:j≠s:=λe=>I (e▸D)
 have h2:=wpOp_putIf f (g j z f d u J) (λcs b=>x i oi cs b hi) (λcs b=>x j z cs b f) hQ M A
 have q:∀k ok,ops[k]? =some ok->k≠i->(listed.setIfInBounds j true).getD k true=false->
   (∀e∈ok.after,Region.binds y e=true->e.on≠i)->oi.apart ops ok=true:=λk ok n V m W=>by
  refine g k ok n V ?_ W;by_cases t:j=k
  ·subst t;exact u
  rw[getD_set_ne true t]at m;exact m
 refine wpOp_mono (λa' w' O=> ?_) h2
 have F:S w':=by
  rcases O.2.1 with h|h
  ·rw[getD_set_ne true U,getD_set_ne true Z,B s D]at h;cases h
  exact h
 refine⟨Or.inr F,ih (listed.setIfInBounds j true) a' w' (λk n=>by
  have t:j≠k:=λe=>I (by rw[e];exact n)
  rw[getD_set_ne true t]
  exact B k n) q (ready_mono C (Ne.symm d)) O.1 F ?_⟩
 rw[Array.setIfInBounds_comm _ _ d];exact O.2.2
theorem tkC{b:Region.Mode}{S:World->Prop}(i:Nat)(L:List Nat)(v:Value)(t:S w)(y:∀w,S w->(execOp a.eval oi).run P w= .ok (.value v) w)
  (h:wpAnyS P b ops Q S s fuel (listed.setIfInBounds i true) (a.put oi.dst v) w)(hi:ops[i]? =some oi:=by exact rfl)(x:Region.noSelect ops=true:=by kernel_rfl)
  (g:(Region.free b ops listed i&&(Region.ready b ops listed).contains i&&zPG b ops listed L i s)=true:=by kernel_rfl)
  (u:Region.wanted oi (yielded ops a.tmps)=true:=by kernel_rfl)(q:∀c a w,Q (.panic c) (a.put oi.dst v) w->Q (.panic c) a w:=by exact λ_ _ _ h=>h):wpAnyS P b ops Q S s (fuel+1) listed a w:=by
 simp only[Bool.and_eq_true]at g;obtain⟨⟨m,n⟩,e⟩:=g;unfold zPG at e;simp only[Bool.and_eq_true,List.all_eq_true,Bool.or_eq_true,List.any_eq_true,Bool.not_eq_true',bne_iff_ne,List.contains_iff_mem]at e;obtain⟨f,o⟩:=e;refine zMn L hi (Region.noSelect_spec x) q (λj d=>⟨(f j d).2,?_⟩) (by simpa using o) fuel listed a w (λj d=>(f j d).1.2) (Region.free_spec hi m) (by simpa using n) (Or.inl ⟨u,y⟩) t h;rcases(f j d).1.1 with hw|⟨k,hk,hw⟩
 ·exact⟨i,Or.inl rfl,Region.waitsFor_spec hw⟩
 exact⟨k,Or.inr hk,Region.waitsFor_spec hw⟩
theorem wSG{d:Region.Mode}{S:World->Prop}(i:Nat)
  (h:∀K:Act->World->Prop,(∀b w',((listed.setIfInBounds i true).getD s true=true\/S w')->wpAnyS P d ops Q S s fuel (listed.setIfInBounds i true) b w'->K b w')->Oper.wp P o a w K Q)
  (f:Region.ready d ops listed=[i]:=by kernel_rfl)(n:ops[i]? =some o:=by exact rfl)(m:Region.wanted o (yielded ops a.tmps)=true:=by kernel_rfl):wpAnyS P d ops Q S s (fuel+1) listed a w:=by
 refine⟨λe=>(by rw[f]at e;cases e),λj c=> ?_⟩;rw[f]at c;simp at c;subst c;unfold wpOp;rw[n];simp only;rw[if_pos m];exact Or.inl (h _ λb w' g k=>⟨g,k⟩)
section
variable {P:Program} {ops:Array Oper} {Q:Exit->Act->World->Prop} {l n:Nat}
def zH0(ops:Array Oper):Bool:=ops.all λo=>match o.op with| .defer _=>false| _=>true
theorem zI7(h:zH0 ops=true){i:Nat}(b:ops[i]? =some o):∀c,o.op≠ .defer c:=λc e=>by
 unfold zH0 at h;rw[Array.all_eq_true]at h;obtain⟨a,he⟩:=Array.getElem?_eq_some_iff.1 b;have:=h i a;rw[he,e]at this;cases this
theorem zPH{K:Act->World->Prop}(e:∀c,o.op≠ .defer c)(h:o.wp P a w K Q):o.wpIn (Fence.wide.inRound l) n P a w K Q:=by
 unfold Oper.wp at h;unfold Oper.wpIn;refine⟨λ_ _=>trivial,?_⟩;rw[Fence.inRound_round,Oper.semAt_some _ _ _ e];generalize (execOp a.eval o).run P w=r at*
 cases r with
 |ok x w'=>
  cases x with
  |enter f args=>exact⟨λb=>(by cases b),(callsIn_wide.2 h).inRound l⟩
  |row row args=>exact⟨λb=>(by cases b),λc d _=>let⟨v,w',r,s⟩:=h c d;⟨v,w',r,stepsIn_wide.2 s⟩⟩
  |round _ _ _ _ _=>exact h.elim
  | _=>exact h
 |halt x w'=>cases x<;>exact h
theorem zK1(c:zH0 ops=true)(d:¬LetsOut Q):∀(fuel:Nat)(listed:Array Bool)(a:Act)(w:World),wpAny P .any ops Q fuel listed a w->wpAnyIn (Fence.wide.inRound l) n P .any ops Q fuel listed a w
 |0,_,_,_,h=>h
 |fuel+1,listed,a,w,h=>⟨h.1,λi hi=>by
  have b:=h.2 i hi;unfold wpOp at b;unfold wpOpIn
  cases e:ops[i]? with
  |none=>rw[e]at b;exact zK1 c d fuel _ _ _ b
  |some o=>
  rw[e]at b;simp only at b⊢;split
  ·rename_i hw;rw[if_pos hw]at b;rcases b with b|b
   ·exact zPH (zI7 c e) (Oper.wp_mono (λa w h=>zK1 c d fuel _ a w h) b)
   exact absurd b.2 d
  rename_i hw;rw[if_neg hw]at b
  exact⟨λ_ _=>trivial,zK1 c d fuel _ _ _ b⟩⟩
theorem zMo(s:Nat)(S:World->Prop)(c:P.follows .mixedOrders =true)(b:zH0 ops=true)
  (h:wpAnyS P .any ops (λe a w=>Q e a w/\e≠ .outgrown) S s ops.size (Array.replicate ops.size false) a w.drew):(Code.region id ops true).wpIn (Fence.wide.inRound l) n P Q a w:=
 Code.wpIn_mono (λ_ _ _ h=>h.1) (wpIn_region_any c (zK1 b (λ⟨_,_,h⟩=>h.2 rfl) _ _ _ _ (zHd _ _ _ _ h)))
def zK2(Q:Exit->Act->World->Prop):Exit->Act->World->Prop
 | .normal,a,w=>Q .normal a w
 | _,_,_=>False
theorem zP4{e:Exit}(h:zK2 Q e a w):Q e a w:=by
 cases e<;>first|exact h|exact h.elim
theorem zMp(s:Nat)(S:World->Prop)(b:P.follows .mixedOrders =true)
  (h:wpAnyS P .any ops (zK2 Q) S s ops.size (Array.replicate ops.size false) a w.drew):(Code.region id ops true).wpIn Fence.wide n P Q a w:=
 Code.wpIn_mono (λ_ _ _ h=>zP4 h) (wpIn_wide.2 (zY s S b h))
end
def zAI(g:List zB):Nat->Int->List Int->List Int
 |0,_,o=>o
 |k+1,i,o=>if i∈o then o else(nAt g i).kids.foldl (λo x=>zAI g k x o) (o++[i])
def zBm(ds:List zE)(g:List zB)(i:Int):List Int:=zAI g (ds.length+1) i []
def zA3(o:List Int)(k:Int):Int:=if k∈o then(o.idxOf k:Nat)else 0
def zBF(g:List zB)(o:List Int)(i:Int):zB:=⟨(nAt g i).leaf,(nAt g i).fact,(nAt g i).cuts,(nAt g i).kids.map (zA3 o)⟩
def zAr(ds:List zE)(g:List zB)(i:Int):List zB:=(zBm ds g i).map (zBF g (zBm ds g i))
section visit
variable {ds:List zE} {g g1 g2:List zB}
structure zGp (g:List zB) (o o':List Int):Prop where
 pre:∃t,o'=o++t
 nodup:o'.Nodup
 rng:∀x∈o',Rng g x
 kids:∀x∈o',x∉o->∀y∈(nAt g x).kids,y∈o'
theorem zGp.sub{o o':List Int}(h:zGp g o o'){x:Int}(a:x∈o):x∈o':=by
 obtain⟨t,rfl⟩:=h.pre;exact List.mem_append_left _ a
theorem zGp.trans{o o' a:List Int}(h:zGp g o o')(k:zGp g o' a):zGp g o a:=by
 refine⟨?_,k.nodup,k.rng,λx e b y d=> ?_⟩
 ·obtain⟨t,rfl⟩:=h.pre;obtain⟨f,rfl⟩:=k.pre;exact⟨t++f,by simp⟩
 by_cases c:x∈o'
 ·exact k.sub (h.kids x c b y d)
 exact k.kids x e c y d
theorem zHe(h:Good ds g):∀(k:Nat)(i:Int)(o:List Int),Rng g i->zCS ds g i<k->(∀x∈o,Rng g x)->o.Nodup->zGp g o (zAI g k i o)/\i∈zAI g k i o
 |0,_,_,_,hr,_,_=>by omega
 |k+1,i,o,hi,hr,j,f=>by
  unfold zAI;by_cases q:i∈o
  ·rw[if_pos q];exact⟨⟨⟨[],by simp⟩,f,j,λx c d=>absurd c d⟩,q⟩
  rw[if_neg q]
  have n:∀(l o:List Int),(∀x∈l,Rng g x/\zCS ds g x<k)->(∀x∈o,Rng g x)->o.Nodup->
    zGp g o (l.foldl (λo x=>zAI g k x o) o)/\∀x∈l,x∈l.foldl (λo x=>zAI g k x o) o:=by
   intro l
   induction l with
   |nil=>intro o _ j f;exact⟨⟨⟨[],by simp⟩,f,j,λx c d=>absurd c d⟩,by simp⟩
   |cons a l ih=>
   intro o s j f;obtain⟨z,E⟩:=zHe h k a o (s a (by simp)).1 (s a (by simp)).2 j f;obtain⟨C,F⟩:=ih (zAI g k a o) (λx c=>s x (List.mem_cons_of_mem _ c)) z.rng z.nodup;refine⟨z.trans C,λx c=> ?_⟩;rcases List.mem_cons.1 c with rfl|c
   ·exact C.sub E
   exact F x c
  have w:∀x∈o++[i],Rng g x:=λx c=>by
   rcases List.mem_append.1 c with c|c
   ·exact j x c
   simp at c;rw[c];exact hi
  have u:(o++[i]).Nodup :=by
   rw[List.nodup_append];exact⟨f,by simp,λa D b A e=>by simp at A;subst A;exact q (e▸D)⟩
  obtain⟨v,m⟩:=n (nAt g i).kids (o++[i]) (λx c=>by have:=h.rank_kid hi c;exact⟨this.1,by omega⟩) w u;refine⟨⟨?_,v.nodup,v.rng,λx c d y B=> ?_⟩,v.sub (by simp)⟩
  ·obtain⟨t,e⟩:=v.pre;exact⟨i::t,by rw[e];simp⟩
  by_cases e:x=i
  ·subst e;exact m y B
  exact v.kids x c (by simp[d,e]) y B
theorem zP5(h:Good ds g)(k:Nat)(i:Int):∃t,zAI g (k+1) i []=i::t:=by
 have b:∀(l o:List Int),∃t,l.foldl (λo x=>zAI g k x o) o=o++t:=by
  have d:∀(k:Nat)(i:Int)(o:List Int),∃t,zAI g k i o=o++t:=by
   intro k
   induction k with
   |zero=>intro i o;exact⟨[],by simp[zAI]⟩
   |succ k ih=>
   intro i o;unfold zAI;split
   ·exact⟨[],by simp⟩
   have:∀(l o:List Int),∃t,l.foldl (λo x=>zAI g k x o) o=o++t:=by
    intro l
    induction l with
    |nil=>intro o;exact⟨[],by simp⟩
    |cons a l ih'=>
    intro o;obtain⟨t,e⟩:=ih a o;obtain⟨f,c⟩:=ih' (zAI g k a o);exact⟨t++f,by rw[List.foldl_cons,c,e];simp⟩
   obtain⟨t,e⟩:=this (nAt g i).kids (o++[i]);exact⟨i::t,by rw[e];simp⟩
  intro l
  induction l with
  |nil=>intro o;exact⟨[],by simp⟩
  |cons a l ih=>
  intro o;obtain⟨t,e⟩:=d k a o;obtain⟨f,c⟩:=ih (zAI g k a o);exact⟨t++f,by rw[List.foldl_cons,c,e];simp⟩
 unfold zAI;rw[if_neg (by simp)];obtain⟨t,e⟩:=b (nAt g i).kids ([]++[i]);exact⟨t,by rw[e];rfl⟩
structure zJV (ds:List zE) (g:List zB) (i:Int) (o:List Int):Prop where
 head:∃t,o=i::t
 nodup:o.Nodup
 rng:∀x∈o,Rng g x
 kids:∀x∈o,∀y∈(nAt g x).kids,y∈o
theorem zEI(h:Good ds g)(hi:Rng g i):zJV ds g i (zBm ds g i):=by
 have b:=zDh (ds:=ds) (g:=g) i;obtain⟨v,_⟩:=zHe h (ds.length+1) i [] hi (by omega) (by simp) (by simp);exact⟨zP5 h ds.length i,v.nodup,v.rng,λx a=>v.kids x a (by simp)⟩
theorem zEs:∀(n:Nat)(l:List Int),l.Nodup->(∀x∈l,0<=x/\x<n)->l.length<=n
 |0,l,_,h=>by
  cases l with
  |nil=>simp
  |cons a r=>have:=h a (by simp);omega
 |n+1,l,hn,h=>by
  have f:(l.erase (n:Int)).length <=n:=zEs n _ (hn.erase _) (λx c=>by
   have a:=h x (List.mem_of_mem_erase c)
   have b:x≠(n:Int):=λe=>by
    subst e;have:=(List.Nodup.mem_erase_iff hn).1 c;exact this.1 rfl
   omega)
  have d:=List.length_erase (a:=(n:Int)) (l:=l);split at d<;>omega
theorem zJV.length_le{o:List Int}(h:zJV ds g i o):o.length<=g.length:=zEs _ _ h.nodup h.rng
inductive R2 (R:Int->Int->Prop):List Int->List Int->Prop where
 |nil:R2 R [] []
 |cons {a b:Int} {l m:List Int}:R a b->R2 R l m->R2 R (a::l) (b::m)
theorem R2.of_getD{R:Int->Int->Prop}:∀{l m:List Int},l.length=m.length->(∀j,j<l.length->R (l.getD j 0) (m.getD j 0))->R2 R l m
 |[],[],_,_=> .nil
 |[],_::_,h,_=>by simp at h
 | _::_,[],h,_=>by simp at h
 |a::l,b::m,h,hj=> .cons (by simpa using hj 0 (by simp)) (R2.of_getD (by simpa using h) λj c=>by simpa using hj (j+1) (by simpa using c))
theorem R2.append{l m a m':List Int}(h:R2 R l m)(b:R2 R a m'):R2 R (l++a) (m++m'):=by
 induction h with
 |nil=>exact b
 |cons h _ ih=>exact .cons h ih
theorem R2.mem(i:∀a d b,R a b->R d b->a=d)(g:∀a b f,R a b->R a f->b=f)(h:R2 R l m){a b:Int}(c:R a b):a∈l↔b∈m:=by
 induction h with
 |nil=>simp
 |cons h _ ih=>
 rename_i x y l m _;simp only[List.mem_cons,ih];refine or_congr ⟨λe=> ?_,λe=> ?_⟩ Iff.rfl
 ·subst e;exact g _ _ _ c h
 subst e;exact i _ _ _ c h
theorem R2.idx(i:∀a d b,R a b->R d b->a=d)(g:∀a b f,R a b->R a f->b=f)(h:R2 R l m){a b:Int}(c:R a b):l.idxOf a=m.idxOf b:=by
 induction h with
 |nil=>rfl
 |cons h _ ih=>
 rename_i x y l m _;rw[List.idxOf_cons,List.idxOf_cons,ih]
 have:(x==a)=(y==b):=by
  rw[Bool.eq_iff_iff,beq_iff_eq,beq_iff_eq];constructor
  ·intro e;subst e;exact g _ _ _ h c
  intro e;subst e;exact i _ _ _ h c
 rw[this]
theorem R2.map_eq{α:Type}{f f':Int->α}(h:R2 R l m)(c:∀a b,R a b->f a=f' b):l.map f=m.map f':=by
 induction h with
 |nil=>rfl
 |cons h _ ih=>rw[List.map_cons,List.map_cons,ih,c _ _ h]
theorem zLx{R:Int->Int->Prop}(u:∀a j b,R a b->R j b->a=j)(s:∀a b n,R a b->R a n->b=n)(q:∀a b,R a b->R2 R (nAt g1 a).kids (nAt g2 b).kids):
  ∀(k:Nat)(a b:Int)(c d:List Int),R a b->R2 R c d->R2 R (zAI g1 k a c) (zAI g2 k b d)
 |0,_,_,_,_,_,h=>by simpa[zAI]using h
 |k+1,a,b,c,d,hab,h=>by
  unfold zAI;have t:=R2.mem u s h hab;by_cases f:a∈c
  ·rw[if_pos f,if_pos (t.1 f)];exact h
  rw[if_neg f,if_neg (λh=>f (t.2 h))]
  have e:∀{l m:List Int},R2 R l m->∀c d,R2 R c d->R2 R (l.foldl (λo x=>zAI g1 k x o) c) (m.foldl (λo x=>zAI g2 k x o) d):=by
   intro l m g
   induction g with
   |nil=>intro c d i;exact i
   |cons h _ ih=>intro c d i;exact ih _ _ (zLx u s q k _ _ _ _ h i)
  exact e (q a b hab) _ _ (h.append (.cons hab .nil))
theorem zSW(o:zDt ds)(m:Good ds g1)(n:Good ds g2){a b:Int}(B:Rng g1 a)(C:Rng g2 b)(he:EqS ds g1 g2 a b):zAr ds g1 a=zAr ds g2 b:=by
 let R:Int->Int->Prop:=λa b=>Rng g1 a/\Rng g2 b/\EqS ds g1 g2 a b
 have s:∀a w b,R a b->R w b->a=w:=λa w b h g=>m.uniq o h.1 g.1 λc i=>by rw[h.2.2 c i,g.2.2 c i]
 have d:∀a b z,R a b->R a z->b=z:=λa b z h g=>n.uniq o h.2.1 g.2.1 λc i=>by rw[<-h.2.2 c i,<-g.2.2 c i]
 have k:∀a b,R a b->R2 R (nAt g1 a).kids (nAt g2 b).kids :=λa b h=>by
  have K:=Good.alike o m n h.1 h.2.1 h.2.2;exact R2.of_getD K.len λj A=>⟨(m.rank_kid h.1 (zBa A)).1,(n.rank_kid h.2.1 (zBa (K.len▸A))).1,K.kids j A⟩
 have q:R2 R (zBm ds g1 a) (zBm ds g2 b):=zLx s d k _ _ _ _ _ ⟨B,C,he⟩ .nil;unfold zAr;refine q.map_eq λx y e=> ?_
 have K:=Good.alike o m n e.1 e.2.1 e.2.2;unfold zBF;refine zB.ext' K.leaf K.fact K.cuts ?_;refine(k x y e).map_eq λu v f=> ?_
 unfold zA3;by_cases t:u∈zBm ds g1 a
 ·rw[if_pos t,if_pos ((q.mem s d f).1 t),q.idx s d f]
 rw[if_neg t,if_neg (λh=>t ((q.mem s d f).2 h))]
end visit
section renumber
variable {ds:List zE} {g:List zB} {i:Int} {o:List Int}
theorem zLy(a:k∈o):0<=zA3 o k/\zA3 o k<o.length:=by
 unfold zA3;rw[if_pos a];have:=List.idxOf_lt_length_of_mem a;omega
theorem zLz{a b:Int}(c:a∈o)(d:b∈o)(h:zA3 o a=zA3 o b):a=b:=by
 unfold zA3 at h;rw[if_pos c,if_pos d]at h;have f:=List.getElem_idxOf (List.idxOf_lt_length_of_mem c);have g:=List.getElem_idxOf (List.idxOf_lt_length_of_mem d);have e:o.idxOf a=o.idxOf b:=by omega
 rw[<-f,<-g];simp only[e]
theorem zNN{f:Int->zB}(b:k∈o):nAt (o.map f) (zA3 o k)=f k:=by
 have a:=List.idxOf_lt_length_of_mem b;unfold zA3;rw[if_pos b,zCB (by simpa using a),List.getElem_map,List.getElem_idxOf a]
theorem zK3(h:Good ds g)(s:zJV ds g i o):Good ds (o.map (zBF g o)):=by
 constructor
 ·intro n C;obtain⟨x,A,rfl⟩:=List.mem_map.1 C;rcases h.proper _ (zEj (s.rng x A))with t|I
  ·left;exact⟨by simp[zBF,t.1],t.2.1,t.2.2⟩
  right;have c:=s.kids x A;refine⟨by simp[zBF,I.ne],I.leaf,I.f0,I.f1,I.cuts,by simp[zBF,I.len],I.asc,λk v=> ?_,λk v=> ?_,λj f=> ?_⟩
  ·obtain⟨y,u,rfl⟩:=List.mem_map.1 v;have:=zLy (c y u);exact⟨this.1,by rw[List.length_map];exact this.2⟩
  ·obtain⟨y,u,rfl⟩:=List.mem_map.1 v;rw[zNN (c y u)];intro q;exact I.up y u (by intro e;simp[zBF,e]at q)
  have m:j+1<(nAt g x).kids.length :=by simpa[zBF]using f
  have e:∀j,j<(nAt g x).kids.length ->(zBF g o x).kids.getD j 0=zA3 o ((nAt g x).kids.getD j 0):=λj f=>by
   simp[zBF,List.getD_eq_getElem?_getD,List.getElem?_eq_getElem f]
  rw[e j (by omega),e (j+1) m];intro B;exact I.diff j m (zLz (c _ (zBa (by omega))) (c _ (zBa m)) B)
 have t:(o.map (zBF g o)).Pairwise (· ≠ ·):=by
  rw[List.pairwise_map];refine List.Pairwise.imp_of_mem (R:=(· ≠ ·)) (λ{a b} ha hb q e=>q ?_) s.nodup;unfold zBF at e;injection e with e1 e2 e3 e4;refine zKD h.nodup (s.rng a ha) (s.rng b hb) (zB.ext' e1 e2 e3 ?_);have w:=s.kids a ha;have z:=s.kids b hb;have d:(nAt g a).kids.length =(nAt g b).kids.length :=by have:=congrArg List.length e4;simpa using this
  refine zFt d λj f=> ?_
  refine zLz (w _ (zBa f)) (z _ (zBa (d▸f))) ?_;have:=congrArg (λl=>l.getD j 0) e4;simpa[List.getD_eq_getElem?_getD,List.getElem?_eq_getElem f,List.getElem?_eq_getElem (d▸f)]using this
 exact t
theorem zPI(h:Good ds g)(d:zJV ds g i o):∀(r:Nat)(x:Int),x∈o->zCS ds g x<=r->∀c,S ds (o.map (zBF g o)) (zA3 o x) c=S ds g x c
 |r,x,hx,hr,c=>by
  have k:=zK3 h d;have hi:=d.rng x hx;have a:nAt (o.map (zBF g o)) (zA3 o x)=zBF g o x:=zNN hx;have n:=zLy hx;have f:Rng (o.map (zBF g o)) (zA3 o x):=⟨n.1,by rw[List.length_map];exact n.2⟩;by_cases b:(nAt g x).kids =[]
  ·rw[h.S_leaf b,k.S_leaf (by rw[a];simp[zBF,b]),a];rfl
  rw[h.S_inner hi b,k.S_inner f (by rw[a];simp[zBF,b]),a];have I:=h.inner hi b;have m:=I.kid_rng (c.getD (nAt g x).fact.toNat 0);have s:=h.rank_kid hi m;have j:nx (nAt g x).cuts (c.getD (nAt g x).fact.toNat 0)<(nAt g x).kids.length :=by have:=zEr (nAt g x).cuts (c.getD (nAt g x).fact.toNat 0);have:=I.len;omega
  have e:(zBF g o x).kids.getD (nx (zBF g o x).cuts (c.getD (zBF g o x).fact.toNat 0)) 0=zA3 o ((nAt g x).kids.getD (nx (nAt g x).cuts (c.getD (nAt g x).fact.toNat 0)) 0):=by
   show((nAt g x).kids.map (zA3 o)).getD (nx (nAt g x).cuts (c.getD (nAt g x).fact.toNat 0)) 0=_;generalize nx (nAt g x).cuts (c.getD (nAt g x).fact.toNat 0)=q at*;simp[List.getD_eq_getElem?_getD,List.getElem?_eq_getElem j]
  rw[e]
  cases r with
  |zero=>omega
  |succ r=>exact zPI h d r _ (d.kids x hx _ m) (by omega) c
theorem zP6(a:zJV ds g i o):zA3 o i=0:=by
 obtain⟨t,rfl⟩:=a.head;unfold zA3;rw[if_pos (by simp)];simp
theorem zK4(h:Good ds g)(hi:Rng g i):Good ds (zAr ds g i):=zK3 h (zEI h hi)
theorem zMA(h:Good ds g)(hi:Rng g i):Rng (zAr ds g i) 0:=by
 obtain⟨t,e⟩:=(zEI h hi).head;refine⟨Int.le_refl _,?_⟩;unfold zAr;rw[List.length_map,e];simp
theorem zL1(h:Good ds g)(hi:Rng g i)(c:List Int):S ds (zAr ds g i) 0 c=S ds g i c:=by
 have a:=zEI h hi;have:=zPI h a _ i (by obtain⟨t,e⟩:=a.head;rw[e];simp) (Nat.le_refl _) c;rw[zP6 a]at this;exact this
theorem zOY(a:zDt ds)(h:Good ds g)(hi:Rng g i):zAr ds (zAr ds g i) 0=zAr ds g i:=
 zSW a (zK4 h hi) h (zMA h hi) hi λc _=>zL1 h hi c
end renumber
def zy(all:List zB)(n:zB):Int × List zB:=if n∈all then((all.idxOf n:Nat),all)else((all.length:Nat),all++[n])
def zX:Int->List Int->List Int->List Int × List Int
 |last,s::ss,k::ks=>if k=last then zX last ss ks else(s::(zX k ss ks).1,k::(zX k ss ks).2)
 | _,_,_=>([],[])
def zAb(all:List zB)(i:Int)(starts kids:List Int):Int × List zB:=
 if(zX (kids.getD 0 0) starts kids).2=[]then(kids.getD 0 0,all)
 else zy all ⟨false,i,(zX (kids.getD 0 0) starts kids).1,kids.getD 0 0::(zX (kids.getD 0 0) starts kids).2⟩
section ext
variable {ds:List zE} {g t:List zB}
theorem Rng.app(h:Rng g i)(t:List zB):Rng (g++t) i:=⟨h.1,by have:=h.2;simp;omega⟩
theorem zFU(h:Rng g i)(t:List zB):nAt (g++t) i=nAt g i:=by
 unfold nAt;have a:=h.1;have b:=h.2;have:i.toNat<g.length:=by omega
 rw[List.getD_eq_getElem?_getD,List.getD_eq_getElem?_getD,List.getElem?_append_left this]
theorem zTS(h:Good ds g)(b:Good ds (g++t)):∀(r:Nat)(i:Int),Rng g i->zCS ds g i<=r->∀c,S ds (g++t) i c=S ds g i c
 |r,i,hi,hr,c=>by
  by_cases a:(nAt g i).kids =[]
  ·rw[h.S_leaf a,b.S_leaf (by rw[zFU hi];exact a),zFU hi]
  have I:=h.inner hi a;have e:=I.kid_rng (c.getD (nAt g i).fact.toNat 0);have d:=h.rank_kid hi e;rw[h.S_inner hi a,b.S_inner (hi.app t) (by rw[zFU hi];exact a),zFU hi]
  cases r with
  |zero=>omega
  |succ r=>exact zTS h b r _ d.1 (by omega) c
theorem zNO(h:Good ds g)(a:Good ds (g++t))(hi:Rng g i)(c:List Int):S ds (g++t) i c=S ds g i c:=zTS h a _ i hi (Nat.le_refl _) c
theorem zDm.app(h:zDm ds g n)(t:List zB):zDm ds (g++t) n:=
 ⟨h.ne,h.leaf,h.f0,h.f1,h.cuts,h.len,h.asc,λk a=>(h.rng k a).app t,λk a=>by rw[zFU (h.rng k a)];exact h.up k a,h.diff⟩
theorem zFe.app(h:zFe ds g n)(t:List zB):zFe ds (g++t) n:=h.imp id (λh=>h.app t)
theorem Good.nil(ds:List zE):Good ds []:=⟨λ_ h=>absurd h (by simp),by simp⟩
structure Made (ds:List zE) (g g':List zB) (i:Int):Prop where
 pre:∃t,g'=g++t
 good:Good ds g'
 rng:Rng g' i
theorem Made.S_old{a:List zB}{i j:Int}(h:Made ds g a i)(b:Good ds g)(d:Rng g j)(c:List Int):S ds a j c=S ds g j c:=by
 obtain⟨t,rfl⟩:=h.pre;exact zNO b h.good d c
theorem zI8(h:Good ds g)(o:zFe ds g n):Made ds g (zy g n).2 (zy g n).1/\nAt (zy g n).2 (zy g n).1=n:=by
 unfold zy;by_cases f:n∈g
 ·rw[if_pos f];have c:=List.idxOf_lt_length_of_mem f;refine⟨⟨⟨[],by simp⟩,h,⟨by simp,by simpa using c⟩⟩,?_⟩;rw[zCB c,List.getElem_idxOf c]
 rw[if_neg f];have q:Rng (g++[n]) (g.length:Nat):=⟨by omega,by simp;omega⟩;refine⟨⟨⟨[n],rfl⟩,⟨λm i=> ?_,?_⟩,q⟩,?_⟩
 ·rcases List.mem_append.1 i with d|d
  ·exact(h.proper m d).app _
  simp at d;rw[d];exact o.app _
 ·rw[List.nodup_append];exact⟨h.nodup,by simp,λa k b j e=>by simp at j;subst j;exact f (e▸k)⟩
 simp only;rw[zCB (by simp)];simp
end ext
theorem zFf:∀(last:Int)(ss ks:List Int),(zX last ss ks).1.length =(zX last ss ks).2.length
 |last,s::ss,k::ks=>by
  unfold zX;split
  ·exact zFf last ss ks
  simp[zFf k ss ks]
 | _,[],_=>rfl
 | _,_::_,[]=>rfl
theorem zI9:∀(last lo hi:Int)(ss ks:List Int),zAE lo hi ss->zAE lo hi (zX last ss ks).1
 |last,lo,hi,s::ss,k::ks,h=>by
  unfold zX;split
  ·exact zI9 last lo hi ss ks (zNL h.2.2 (Int.le_of_lt h.1))
  exact⟨h.1,h.2.1,zI9 k s hi ss ks h.2.2⟩
 | _,_,_,[],_,_=>trivial
 | _,_,_,_::_,[],_=>trivial
theorem zGq:∀(last:Int)(ss ks:List Int),∀k∈(zX last ss ks).2,k∈ks
 |last,s::ss,k::ks,x,a=>by
  unfold zX at a;split at a
  ·exact List.mem_cons_of_mem _ (zGq last ss ks x a)
  rcases List.mem_cons.1 a with rfl|a
  ·simp
  exact List.mem_cons_of_mem _ (zGq k ss ks x a)
 | _,[],_,_,h=>absurd h (by simp[zX])
 | _,_::_,[],_,h=>absurd h (by simp[zX])
theorem zHf:∀(last:Int)(ss ks:List Int)(j:Nat),j+1<(last::(zX last ss ks).2).length ->(last::(zX last ss ks).2).getD j 0≠(last::(zX last ss ks).2).getD (j+1) 0
 |last,s::ss,k::ks,j,hj=>by
  unfold zX at hj⊢;split
  ·rename_i h;rw[if_pos h]at hj;exact zHf last ss ks j hj
  rename_i h;rw[if_neg h]at hj
  cases j with
  |zero=>simp;exact λe=>h e.symm
  |succ j=>
  have:=zHf k ss ks j (by simpa using hj);simpa using this
 | _,[],_,j,hj=>by simp[zX]at hj
 | _,_::_,[],j,hj=>by simp[zX]at hj
theorem zHg:∀(last lo hi:Int)(ss ks:List Int)(v:Int),ss.length=ks.length->zAE lo hi ss->
  (last::(zX last ss ks).2).getD (nx (zX last ss ks).1 v) 0=(last::ks).getD (nx ss v) 0
 |last,lo,hi,s::ss,k::ks,v,hl,h=>by
  have b:ss.length=ks.length:=by simpa using hl
  unfold zX;by_cases c:k=last
  ·rw[if_pos c,zHg last s hi ss ks v b h.2.2];rw[show nx (s::ss) v=if v<s then 0 else nx ss v+1 from rfl];by_cases a:v<s
   ·rw[if_pos a,zNK h.2.2 (v:=v) (by omega)];rfl
   rw[if_neg a,c,List.getD_cons_succ]
  rw[if_neg c];simp only[nx];by_cases a:v<s
  ·rw[if_pos a,if_pos a];rfl
  rw[if_neg a,if_neg a,List.getD_cons_succ,List.getD_cons_succ];exact zHg k s hi ss ks v b h.2.2
 | _,_,_,[],[],_,_,_=>by simp[zX,nx]
 | _,_,_,[],_::_,_,h,_=>by simp at h
 | _,_,_,_::_,[],_,h,_=>by simp at h
theorem zJ9(k:Int)(s:Int)(ss ks:List Int):zX k (s::ss) (k::ks)=zX k ss ks:=by
 rw[zX,if_pos rfl]
theorem zK5(h:Good ds g){i:Nat}(hi:i<ds.length){rest:List Int}{a:Int}{ks:List Int}(z:rest.length=ks.length)
  (u:zAE (ds.getD i zAP).lo (ds.getD i zAP).hi rest)(t:∀k∈a::ks,Rng g k)(x:∀k∈a::ks,(nAt g k).kids ≠[]->(i:Int)<(nAt g k).fact):
  Made ds g (zAb g i ((ds.getD i zAP).lo ::rest) (a::ks)).2 (zAb g i ((ds.getD i zAP).lo ::rest) (a::ks)).1/\
  (∀c,S ds (zAb g i ((ds.getD i zAP).lo ::rest) (a::ks)).2 (zAb g i ((ds.getD i zAP).lo ::rest) (a::ks)).1 c=S ds g ((a::ks).getD (nx rest (c.getD i 0)) 0) c)/\
  ((nAt (zAb g i ((ds.getD i zAP).lo ::rest) (a::ks)).2 (zAb g i ((ds.getD i zAP).lo ::rest) (a::ks)).1).kids ≠[]->
   (i:Int)<=(nAt (zAb g i ((ds.getD i zAP).lo ::rest) (a::ks)).2 (zAb g i ((ds.getD i zAP).lo ::rest) (a::ks)).1).fact):=by
 unfold zAb;simp only[List.getD_cons_zero,zJ9];have w:=λv=>zHg a _ _ rest ks v z u
 have b:=zFf a rest ks;have q:=zI9 a _ _ rest ks u;have s:=zGq a rest ks;have o:=zHf a rest ks;generalize zX a rest ks=m at*;by_cases he:m.2=[]
 ·rw[if_pos he];refine⟨⟨⟨[],by simp⟩,h,t a (by simp)⟩,λc=> ?_,λf=>Int.le_of_lt (x a (by simp) f)⟩;have y:m.1=[]:=List.eq_nil_of_length_eq_zero (by rw[b,he];rfl);rw[<-w,y,he];rfl
 rw[if_neg he]
 have d:∀k∈a::m.2,k∈a::ks:=λk f=>by
  rcases List.mem_cons.1 f with rfl|f
  ·simp
  exact List.mem_cons_of_mem _ (s k f)
 have I:zDm ds g ⟨false,i,m.1,a::m.2⟩:=by
  refine⟨by simp,rfl,by simp,by simpa using hi,λe=>he (List.eq_nil_of_length_eq_zero (by rw[<-b];simp at e;rw[e];rfl)),by simp[b],?_,λk f=>t k (d k f),λk f=>x k (d k f),o⟩;show zAE (fAt ds (i:Nat)).lo (fAt ds (i:Nat)).hi m.1;unfold fAt;rw[Int.toNat_natCast];exact q
 obtain⟨M,j⟩:=zI8 h (n:=⟨false,i,m.1,a::m.2⟩) (Or.inr I);refine⟨M,λc=> ?_,λ_=> ?_⟩
 ·rw[M.good.S_inner M.rng (by rw[j];simp),j];simp only[Int.toNat_natCast];rw[w];refine M.S_old h (t _ ?_) c;have A:=zEr rest (c.getD i 0);exact zBa (by simp only[List.length_cons];omega)
 rw[j];exact Int.le_refl _
end Go.Proofs.YtommaegelgilnaaGreatDoor
