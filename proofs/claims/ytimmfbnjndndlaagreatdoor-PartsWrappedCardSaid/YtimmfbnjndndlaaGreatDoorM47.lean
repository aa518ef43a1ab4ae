/- Texts CH W34 W35 W36 W37. -/
import Derived.Test.YtimmfbnjndndlaaGreatDoorM20
import Derived.Test.YtimmfbnjndndlaaGreatDoorM19
import Derived.Test.YtimmfbnjndndlaaGreatDoorM6
import Derived.Deep.RegionHeld3
import Derived.Test.YtimmfbnjndndlaaGreatDoorM0
set_option linter.all false
namespace Go.Proofs.YtimmfbnjndndlaaGreatDoor
open Go.RowKit
def ascB(lo hi:Int):List Int->Bool
 |[]=>true
 |c::r=>decide (lo<c)&&decide (c≤hi)&&ascB c hi r
theorem ascB_iff:∀{l:List Int}{lo hi:Int},ascB lo hi l=true↔ascFrom lo hi l
 |[],_,_=>by simp[ascB,ascFrom]
 |c::r,lo,hi=>by simp only[ascB,ascFrom,Bool.and_eq_true,decide_eq_true_eq,ascB_iff,and_assoc]
def kidsB(g:List NodeD)(f:Int):List Int->Bool
 |[]=>true
 |k::r=>(decide (0≤k)&&decide (k<g.length)&&(decide ((nAt g k).kids =[])||decide (f<(nAt g k).fact)))&&(match r with|[]=>true|k'::_=>decide (k≠k'))&&kidsB g f r
def properB(ds:List FactD)(g:List NodeD)(n:NodeD):Bool:=
 if n.kids=[]then decide (n.fact=0)&&decide (n.cuts=[])
 else !n.leaf&&decide (0≤n.fact)&&decide (n.fact<ds.length)&&decide (n.cuts≠[])&&decide (n.kids.length=n.cuts.length+1)&&ascB (fAt ds n.fact).lo (fAt ds n.fact).hi n.cuts&&kidsB g n.fact n.kids
theorem kidsB_iff{g:List NodeD}{f:Int}:∀{l:List Int},kidsB g f l=true↔(∀k∈l,Rng g k)∧(∀k∈l,(nAt g k).kids ≠[]->f<(nAt g k).fact)∧∀j,j+1<l.length->l.getD j 0≠l.getD (j+1) 0
 |[]=>by simp[kidsB]
 |k::r=>by
  have ih:=kidsB_iff (g:=g) (f:=f) (l:=r);unfold kidsB;simp only[Bool.and_eq_true,decide_eq_true_eq,Bool.or_eq_true,ih];constructor
  ·rintro⟨⟨⟨⟨h0,h1⟩,h2⟩,h3⟩,h4,h5,h6⟩;refine⟨λx hx=> ?_,λx hx hne=> ?_,λj hj=> ?_⟩
   ·rcases List.mem_cons.1 hx with rfl|hx
    ·exact⟨h0,h1⟩
    ·exact h4 x hx
   ·rcases List.mem_cons.1 hx with rfl|hx
    ·rcases h2 with h2|h2
     ·exact absurd h2 hne
     ·exact h2
    ·exact h5 x hx hne
   ·cases j with
    |zero=>
     cases r with
     |nil=>simp at hj
     |cons k' r=>simpa using h3
    |succ j=>simpa using h6 j (by simpa using hj)
  ·rintro⟨h1,h2,h3⟩;refine⟨⟨⟨⟨(h1 k (by simp)).1,(h1 k (by simp)).2⟩,?_⟩,?_⟩,λx hx=>h1 x (by simp[hx]),λx hx=>h2 x (by simp[hx]),λj hj=> ?_⟩
   ·by_cases e:(nAt g k).kids =[]
    ·exact Or.inl e
    ·exact Or.inr (h2 k (by simp) e)
   ·cases r with
    |nil=>rfl
    |cons k' r=>have:=h3 0 (by simp);simpa using this
   ·have:=h3 (j+1) (by simpa using hj);simpa using this
theorem properB_iff{ds:List FactD}{g:List NodeD}{n:NodeD}:properB ds g n=true↔Proper ds g n:=by
 unfold properB;by_cases h:n.kids=[]
 ·rw[if_pos h];simp only[Bool.and_eq_true,decide_eq_true_eq]
  exact⟨λe=>Or.inl ⟨h,e.1,e.2⟩,λe=>by
   rcases e with e|e
   ·exact e.2
   ·exact absurd h e.ne⟩
 ·rw[if_neg h];simp only[Bool.and_eq_true,decide_eq_true_eq,Bool.not_eq_true',ascB_iff,kidsB_iff];constructor
  ·rintro⟨⟨⟨⟨⟨⟨h1,h2⟩,h3⟩,h4⟩,h5⟩,h6⟩,h7,h8,h9⟩;exact Or.inr ⟨h,h1,h2,h3,h4,h5,h6,h7,h8,h9⟩
  ·rintro(e|e)
   ·exact absurd e.1 h
   ·exact⟨⟨⟨⟨⟨⟨e.leaf,e.f0⟩,e.f1⟩,e.cuts⟩,e.len⟩,e.asc⟩,e.rng,e.up,e.diff⟩
def validS(ds:List FactD)(g:List NodeD):Bool:=
 validDom ds&&decide (g≠[])&&decide (g.length≤4000)&&g.all (properB ds g)&&decide g.Nodup&&decide (canonS ds g 0=g)
structure IsValid (ds:List FactD) (g:List NodeD):Prop where
 dom:validDom ds=true
 ne:g≠[]
 len:g.length≤4000
 good:Good ds g
 canon:canonS ds g 0=g
theorem validS_iff{ds:List FactD}{g:List NodeD}:validS ds g=true↔IsValid ds g:=by
 unfold validS;simp only[Bool.and_eq_true,decide_eq_true_eq,List.all_eq_true,properB_iff];constructor
 ·rintro⟨⟨⟨⟨⟨h1,h2⟩,h3⟩,h4⟩,h5⟩,h6⟩;exact⟨h1,h2,h3,⟨h4,h5⟩,h6⟩
 ·rintro⟨h1,h2,h3,⟨h4,h5⟩,h6⟩;exact⟨⟨⟨⟨⟨h1,h2⟩,h3⟩,h4⟩,h5⟩,h6⟩
theorem lohi_of{ds:List FactD}(h:validDom ds=true):LoHi ds:=λj hj=>by
 unfold validDom at h;simp only[Bool.and_eq_true,List.all_eq_true]at h;have:=h.1.1 (ds.getD j noFact) (by rw[List.getD_eq_getElem?_getD,List.getElem?_eq_getElem hj];exact List.getElem_mem hj);unfold factOk at this;simp only[Bool.and_eq_true,Bool.or_eq_true,beq_iff_eq,decide_eq_true_eq]at this;omega
theorem IsValid.rng{ds:List FactD}{g:List NodeD}(h:IsValid ds g):Rng g 0:=⟨Int.le_refl _,by have:=List.length_pos_iff.2 h.ne;omega⟩
theorem IsValid.eq{ds:List FactD}{a b:List NodeD}(ha:IsValid ds a)(hb:IsValid ds b)(h:EqS ds a b 0 0):a=b:=by
 rw[<-ha.canon,<-hb.canon];exact canon_eq (lohi_of ha.dom) ha.good hb.good ha.rng hb.rng h
theorem canon_valid{ds:List FactD}{g:List NodeD}{i:Int}(hd:validDom ds=true)(h:Good ds g)(hi:Rng g i)(hlen:(canonS ds g i).length ≤4000):IsValid ds (canonS ds g i):=
 ⟨hd,by intro e;have:=(canon_rng h hi).2;rw[e]at this;simp at this,hlen,canon_good h hi,canon_again (lohi_of hd) h hi⟩
theorem fit_of{ds:List FactD}{c:List Int}(h:fits ds c=true):Fit ds c:=by
 unfold fits at h;simp only[Bool.and_eq_true,decide_eq_true_eq,List.all_eq_true]at h;refine⟨h.1.2,λj hj=> ?_⟩;have hc:j<c.length:=by omega
 have:=h.2 (ds[j],c[j]) (by
  have hz:(ds.zip c)[j]'(by simp;omega)=(ds[j],c[j]):=List.getElem_zip
  rw[<-hz];exact List.getElem_mem _)
 unfold inR at this;simp only[Bool.and_eq_true,decide_eq_true_eq]at this;simpa[List.getD_eq_getElem?_getD,List.getElem?_eq_getElem hj,List.getElem?_eq_getElem hc]using this
theorem fits_of{ds:List FactD}{c:List Int}(hd:validDom ds=true)(h:Fit ds c):fits ds c=true:=
 fits_all hd h.1 λj h1 h2 _=>by
  have:=h.2 j h1;unfold inR;simp only[Bool.and_eq_true,decide_eq_true_eq];simpa[List.getD_eq_getElem?_getD,List.getElem?_eq_getElem h1,List.getElem?_eq_getElem h2]using this
def nxL(n:NodeD)(v:Int):Int:=if nx n.cuts v<n.cuts.length then(nx n.cuts v:Nat)else(n.kids.length:Int)-1
theorem Inner.nxL{ds:List FactD}{g:List NodeD}{n:NodeD}(h:Inner ds g n)(v:Int):nxL n v=(nx n.cuts v:Nat):=by
 unfold Go.Proofs.YtimmfbnjndndlaaGreatDoor.nxL;have:=nx_le n.cuts v;have:=h.len;split<;>omega
def holdsD(g:List NodeD)(c:List Int):Nat->Int->Bool
 |0,_=>false
 |k+1,at_=>
  if at_<0∨(g.length:Int)≤at_ then false
  else if(nAt g at_).kids =[]then(nAt g at_).leaf
  else if(nAt g at_).fact <0∨(c.length:Int)≤(nAt g at_).fact then false
  else if((nAt g at_).kids.length :Int)≤nxL (nAt g at_) (c.getD (nAt g at_).fact.toNat 0)then false
  else holdsD g c k ((nAt g at_).kids.getD (nxL (nAt g at_) (c.getD (nAt g at_).fact.toNat 0)).toNat 0)
theorem countP_lt{α:Type}{p q:α->Bool}(hpq:∀x,p x=true->q x=true):∀{l:List α}{x:α},x∈l->q x=true->p x=false->l.countP p+1≤l.countP q
 |a::l,x,hx,hq,hp=>by
  rw[List.countP_cons,List.countP_cons];have hle:l.countP p≤l.countP q:=List.countP_mono_left λx _ h=>hpq x h
  rcases List.mem_cons.1 hx with rfl|hx
  ·rw[hq,hp];simp;omega
  ·have:=countP_lt hpq hx hq hp;by_cases h:p a=true
   ·rw[h,hpq a h];simp;omega
   ·rw[if_neg h];omega
section holds
variable {ds:List FactD} {g:List NodeD}
def rankN(ds:List FactD)(n:NodeD):Nat:=if n.kids=[]then 0 else ds.length-n.fact.toNat
def cnt(ds:List FactD)(g:List NodeD)(r:Nat):Nat:=g.countP λn=>decide (rankN ds n≤r)
theorem cnt_lt{i k:Int}(hi:Rng g i)(h:rank ds g k<rank ds g i):cnt ds g (rank ds g k)+1≤cnt ds g (rank ds g i):=
 countP_lt (λn hn=>by simp only[decide_eq_true_eq]at hn⊢;omega) (nAt_mem hi) (by simp[rank,rankN]) (by simp only[decide_eq_false_iff_not,Nat.not_le];exact h)
theorem cnt_pos{i:Int}(hi:Rng g i):1≤cnt ds g (rank ds g i):=by
 unfold cnt;exact List.countP_pos_iff.2 ⟨_,nAt_mem hi,by simp[rank,rankN]⟩
theorem holdsD_S(h:Good ds g){c:List Int}(hc:c.length=ds.length):∀(k:Nat)(i:Int),Rng g i->cnt ds g (rank ds g i)≤k->holdsD g c k i=S ds g i c
 |0,i,hi,hk=>by have:=cnt_pos (ds:=ds) hi;omega
 |k+1,i,hi,hk=>by
  unfold holdsD;have h0:=hi.1;have h1:=hi.2;rw[if_neg (by omega)];by_cases hkk:(nAt g i).kids =[]
  ·rw[if_pos hkk,h.S_leaf hkk]
  ·have I:=h.inner hi hkk;have f0:=I.f0;have f1:=I.f1;rw[if_neg hkk,if_neg (by omega),I.nxL,Int.toNat_natCast];have hm:=I.kid_rng (c.getD (nAt g i).fact.toNat 0);have hrk:=h.rank_kid hi hm;have hle:=nx_le (nAt g i).cuts (c.getD (nAt g i).fact.toNat 0);have hlen:=I.len;rw[if_neg (by omega),h.S_inner hi hkk];have:=cnt_lt (k:=(nAt g i).kids.getD (nx (nAt g i).cuts (c.getD (nAt g i).fact.toNat 0)) 0) hi hrk.2;exact holdsD_S h hc k _ hrk.1 (by omega)
theorem holdsD_all(h:Good ds g){c:List Int}(hc:c.length=ds.length)(hr:Rng g 0):holdsD g c g.length 0=S ds g 0 c:=
 holdsD_S h hc _ _ hr (by unfold cnt;exact List.countP_le_length)
def live(g:List NodeD)(k:Int):Bool:=decide ((nAt g k).kids ≠[])||(nAt g k).leaf
def leastW(g:List NodeD):Nat->Int->List Int->Int × List Int
 |0,i,c=>(i,c)
 |k+1,i,c=>
  if(nAt g i).kids =[]then(i,c)
  else leastW g k ((nAt g i).kids.getD ((nAt g i).kids.findIdx (live g)) 0)
   (if 0<(nAt g i).kids.findIdx (live g)then c.set (nAt g i).fact.toNat ((nAt g i).cuts.getD ((nAt g i).kids.findIdx (live g)-1) 0)else c)
def leastS(ds:List FactD)(g:List NodeD):Option (List Int):=
 if validS ds g=true then(if(nAt g (leastW g (ds.length+1) 0 (leastOf ds)).1).leaf =true then some (leastW g (ds.length+1) 0 (leastOf ds)).2 else none)else none
theorem Good.some_live(_hl:LoHi ds)(h:Good ds g){i:Int}(hi:Rng g i)(hk:(nAt g i).kids ≠[]):(nAt g i).kids.findIdx (live g)<(nAt g i).kids.length :=by
 have I:=h.inner hi hk;refine List.findIdx_lt_length_of_exists ?_;have hlen:=I.len;have hc1:1≤(nAt g i).cuts.length :=by have:=I.cuts;cases hc:(nAt g i).cuts with|nil=>exact absurd hc this|cons=>simp
 have m0:(nAt g i).kids.getD 0 0∈(nAt g i).kids :=mem_getD (by omega);have m1:(nAt g i).kids.getD 1 0∈(nAt g i).kids :=mem_getD (by omega);by_cases l0:live g ((nAt g i).kids.getD 0 0)=true
 ·exact⟨_,m0,l0⟩
 ·by_cases l1:live g ((nAt g i).kids.getD 1 0)=true
  ·exact⟨_,m1,l1⟩
  ·exfalso;have hd:=I.diff 0 (by omega)
   have dead:∀k,Rng g k->¬live g k=true->nAt g k=noNode:=λk hk hl=>by
    unfold live at hl;simp only[Bool.or_eq_true,decide_eq_true_eq,not_or,Decidable.not_not]at hl;rcases h.proper _ (nAt_mem hk)with e|e
    ·exact NodeD.ext' (by rw[show noNode.leaf=false from rfl];simpa using hl.2) e.2.1 e.2.2 e.1
    ·exact absurd hl.1 e.ne
   exact hd (nodup_at h.nodup (I.rng _ m0) (I.rng _ m1) (by rw[dead _ (I.rng _ m0) l0,dead _ (I.rng _ m1) l1]))
def lexLt(a b:List Int):Prop:=∃j,j<a.length∧j<b.length∧(∀i,i<j->a.getD i 0=b.getD i 0)∧a.getD j 0<b.getD j 0
theorem dead_S(h:Good ds g){i:Int}(hd:live g i=false)(c:List Int):S ds g i c=false:=by
 unfold live at hd;simp only[Bool.or_eq_false_iff,decide_eq_false_iff_not,Decidable.not_not]at hd;rw[h.S_leaf hd.1];exact hd.2
theorem leastW_spec(hl:LoHi ds)(h:Good ds g):∀(k:Nat)(i:Int)(c:List Int)(lo:Nat),Rng g i->rank ds g i<k->live g i=true->Fit ds c->((nAt g i).kids ≠[]->(lo:Int)≤(nAt g i).fact)->
  (∀j,lo≤j->j<ds.length->c.getD j 0=(ds.getD j noFact).lo)->
  (nAt g (leastW g k i c).1).leaf =true∧Fit ds (leastW g k i c).2∧S ds g i (leastW g k i c).2=true∧(∀j,j<lo->(leastW g k i c).2.getD j 0=c.getD j 0)∧
  ((nAt g i).kids ≠[]->∀j:Nat,(j:Int)<(nAt g i).fact ->(leastW g k i c).2.getD j 0=c.getD j 0)∧
  ∀c',Fit ds c'->(∀j,j<lo->c'.getD j 0=c.getD j 0)->S ds g i c'=true->¬lexLt c' (leastW g k i c).2
 |0,_,_,_,_,hr,_,_,_,_=>by omega
 |k+1,i,c,lo,hi,hr,hlv,hc,hlo,hcl=>by
  unfold leastW;by_cases hk:(nAt g i).kids =[]
  ·rw[if_pos hk];(have hlf:(nAt g i).leaf =true:=by unfold live at hlv;simpa[hk]using hlv);refine⟨hlf,hc,by rw[h.S_leaf hk];exact hlf,λj _=>rfl,λj hj=>absurd hk j,λc' hc' hag hs ⟨j,h1,h2,h3,h4⟩=> ?_⟩;rcases Nat.lt_or_ge j lo with hj|hj
   ·have:=hag j hj;simp only at h4;omega
   ·(have hjd:j<ds.length:=by rw[hc'.1]at h1;exact h1);have:=(hc'.2 j hjd).1;have:=hcl j hj hjd;simp only at h4;omega
  ·rw[if_neg hk];have I:=h.inner hi hk;have hlo':=hlo hk;have f0:=I.f0;have f1:=I.f1;have hfi:=h.some_live hl hi hk;(have hflt:(nAt g i).fact.toNat <ds.length:=by omega);have hkm:=mem_getD hfi
   have hkl:live g ((nAt g i).kids.getD ((nAt g i).kids.findIdx (live g)) 0)=true:=by
    rw[List.getD_eq_getElem?_getD,List.getElem?_eq_getElem hfi];exact List.findIdx_getElem
   have hbefore:∀j,j<(nAt g i).kids.findIdx (live g)->live g ((nAt g i).kids.getD j 0)=false:=λj hj=>by
    (have hj':j<(nAt g i).kids.length :=by omega);rw[List.getD_eq_getElem?_getD,List.getElem?_eq_getElem hj'];have:=List.not_of_lt_findIdx hj;simpa using this
   have hlen:=I.len;generalize hx:(nAt g i).kids.findIdx (live g)=x at*;have hrk:=h.rank_kid hi hkm
   have hset:(if 0<x then c.set (nAt g i).fact.toNat ((nAt g i).cuts.getD (x-1) 0)else c)=c.set (nAt g i).fact.toNat (startAt (fAt ds (nAt g i).fact).lo (nAt g i).cuts x):=by
    unfold startAt;by_cases h0:x=0
    ·rw[if_neg (by omega),if_pos h0];have e:=hcl (nAt g i).fact.toNat (by omega) hflt;(have hlt:(nAt g i).fact.toNat <c.length:=by rw[hc.1];exact hflt);apply list_ext_getD (by simp);intro j hj;rw[getD_set];split
     ·rename_i hh;rw[<-hh.1,e];rfl
     ·rfl
    ·rw[if_pos (by omega),if_neg h0]
   rw[hset];have hst:=h.start_fit hl hi hk (j:=x) (by omega);have hc1:=hc.set_ (j:=(nAt g i).fact.toNat) hst.1 hst.2;have hup:=I.up _ hkm;generalize hq:startAt (fAt ds (nAt g i).fact).lo (nAt g i).cuts x=q at*;(have hnq:nx (nAt g i).cuts q=x:=by rw[<-hq];exact nx_start I.asc (by omega));have hclen:(nAt g i).fact.toNat <c.length:=by rw[hc.1];exact hflt
   obtain⟨a1,a2,a3,a4,a5,a6⟩:=leastW_spec hl h k ((nAt g i).kids.getD x 0) (c.set (nAt g i).fact.toNat q) ((nAt g i).fact.toNat +1) hrk.1 (by omega) hkl hc1 (λhkk=>by have:=hup hkk;omega) (λj hj hjd=>by
    rw[getD_set,if_neg (by omega)]
    exact hcl j (by omega) hjd)
   generalize leastW g k ((nAt g i).kids.getD x 0) (c.set (nAt g i).fact.toNat q)=r at*
   have hpf:r.2.getD (nAt g i).fact.toNat 0=q:=by
    rw[a4 _ (by omega),getD_set,if_pos ⟨rfl,hclen⟩]
   have hold:∀j,j<(nAt g i).fact.toNat ->r.2.getD j 0=c.getD j 0:=λj hj=>by
    rw[a4 j (by omega),getD_set,if_neg (by omega)]
   refine⟨a1,a2,?_,λj hj=>hold j (by omega),λ_ j hj=>hold j (by omega),λc' hc' hag hs ⟨j,h1,h2,h3,h4⟩=> ?_⟩
   ·rw[h.S_inner hi hk,hpf,hnq];exact a3
   ·(have hjd:j<ds.length:=by rw[hc'.1]at h1;exact h1);rcases Nat.lt_trichotomy j (nAt g i).fact.toNat with hj|hj|hj
    ·have e:=hold j hj;rcases Nat.lt_or_ge j lo with hjl|hjl
     ·have:=hag j hjl;omega
     ·have:=(hc'.2 j hjd).1;have:=hcl j hjl hjd;omega
    ·subst hj;rw[hpf]at h4;rw[h.S_inner hi hk]at hs
     have hlt:nx (nAt g i).cuts (c'.getD (nAt g i).fact.toNat 0)<x:=by
      rcases Nat.lt_or_ge (nx (nAt g i).cuts (c'.getD (nAt g i).fact.toNat 0)) x with h'|h'
      ·exact h'
      ·exfalso
       have hx0:x≠0:=λe=>by
        have:=(hc'.2 _ hjd).1;rw[e]at hq;unfold startAt fAt at hq;simp only[if_true]at hq;omega
       have hmem:q∈(nAt g i).cuts :=by
        rw[<-hq];unfold startAt;rw[if_neg hx0];exact mem_getD (by omega)
       have s1:=nx_start_gap (v:=c'.getD (nAt g i).fact.toNat 0) I.asc hmem;have s2:=nx_start_le (v:=c'.getD (nAt g i).fact.toNat 0) I.asc (hc'.2 _ hjd).1;have s3:startAt (fAt ds (nAt g i).fact).lo (nAt g i).cuts (nx (nAt g i).cuts (c'.getD (nAt g i).fact.toNat 0))<q:=by omega
       have mono:∀(l:List Int)(lo hi:Int)(a b:Nat),ascFrom lo hi l->a≤b->b≤l.length->startAt lo l a≤startAt lo l b:=by
        intro l
        induction l with
        |nil=>
         intro lo hi a b _ hab hb;simp at hb;(have:a=b:=by omega);subst this;exact Int.le_refl _
        |cons y l ih=>
         intro lo hi a b ha hab hb
         cases a with
         |zero=>
          unfold startAt;rw[if_pos rfl];split
          ·exact Int.le_refl _
          ·exact Int.le_of_lt (asc_mem ha _ (mem_getD (by omega))).1
         |succ a=>
          obtain⟨b,rfl⟩:∃b',b=b'+1:=⟨b-1,by omega⟩
          have e:∀j,startAt lo (y::l) (j+1)=startAt y l j:=λj=>by
           unfold startAt
           cases j with
           |zero=>simp
           |succ j=>simp
          rw[e,e];exact ih y hi a b ha.2.2 (by omega) (by simpa using hb)
       have:=mono _ _ _ x _ I.asc h' (nx_le _ _);omega
     rw[dead_S h (hbefore _ hlt)]at hs;exact absurd hs (by simp)
    ·have ef:=h3 _ hj;rw[hpf]at ef;rw[h.S_inner hi hk,ef,hnq]at hs;refine a6 c' hc' (λj' hj'=> ?_) hs ⟨j,h1,h2,h3,h4⟩;rw[h3 j' (by omega),a4 j' hj']
theorem leastOf_get{ds:List FactD}(hd:validDom ds=true)(j:Nat)(hj:j<ds.length):(leastOf ds).getD j 0=(ds.getD j noFact).lo :=by
 rw[leastOf_yes hd];simp[List.getD_eq_getElem?_getD,List.getElem?_eq_getElem hj]
theorem leastS_some{p:List Int}(h:leastS ds g=some p):IsValid ds g∧Fit ds p∧S ds g 0 p=true∧∀c,Fit ds c->S ds g 0 c=true->¬lexLt c p:=by
 unfold leastS at h;by_cases hv:validS ds g=true
 ·rw[if_pos hv]at h;have V:=validS_iff.1 hv;have hl:=lohi_of V.dom;have hf:Fit ds (leastOf ds):=by rw[leastOf_yes V.dom];exact hl.least
  by_cases hlv:live g 0=true
  ·obtain⟨a1,a2,a3,_,_,a6⟩:=leastW_spec hl V.good (ds.length+1) 0 (leastOf ds) 0 V.rng (by have:=rank_le (ds:=ds) (g:=g) 0;omega) hlv hf (λhk=>(V.good.inner V.rng hk).f0) (λj _ hj=>leastOf_get V.dom j hj);rw[if_pos a1]at h;injection h with h;subst h;exact⟨V,a2,a3,λc hc hs=>a6 c hc (λj hj=>absurd hj (by omega)) hs⟩
  ·exfalso;unfold live at hlv;simp only[Bool.or_eq_true,decide_eq_true_eq,not_or,Decidable.not_not]at hlv;unfold leastW at h;rw[if_pos hlv.1,if_neg hlv.2]at h;cases h
 ·rw[if_neg hv]at h;cases h
theorem leastS_none(hv:IsValid ds g)(h:leastS ds g=none):(∀c,S ds g 0 c=false)∧live g 0=false:=by
 unfold leastS at h;rw[if_pos (validS_iff.2 hv)]at h;have hl:=lohi_of hv.dom;have hf:Fit ds (leastOf ds):=by rw[leastOf_yes hv.dom];exact hl.least
 by_cases hlv:live g 0=true
 ·exfalso;obtain⟨a1,_⟩:=leastW_spec hl hv.good (ds.length+1) 0 (leastOf ds) 0 hv.rng (by have:=rank_le (ds:=ds) (g:=g) 0;omega) hlv hf (λhk=>(hv.good.inner hv.rng hk).f0) (λj _ hj=>leastOf_get hv.dom j hj);rw[if_pos a1]at h;cases h
 ·have hlv':live g 0=false:=by simpa using hlv
  exact⟨λc=>dead_S hv.good hlv' c,hlv'⟩
theorem dead_root(hv:IsValid ds g)(h:live g 0=false):g=[noNode]:=by
 have hb:IsValid ds [noNode]:=by
  have hg:Good ds [noNode]:=⟨λn hn=>by simp at hn;subst hn;exact Or.inl ⟨rfl,rfl,rfl⟩,by simp⟩;refine⟨hv.dom,by simp,by simp,hg,?_⟩;unfold canonS orderS visitS;simp[nAt,noNode,renum]
 refine hv.eq hb λc _=> ?_
 rw[dead_S hv.good h,hb.good.S_leaf (by rfl)];rfl
end holds
def notN(n:NodeD):NodeD:=if n.kids=[]then⟨!n.leaf,n.fact,n.cuts,n.kids⟩else n
def notD(g:List NodeD):List NodeD:=g.map notN
theorem notN_kids(n:NodeD):(notN n).kids =n.kids∧(notN n).cuts =n.cuts∧(notN n).fact =n.fact:=by unfold notN;split<;>simp
theorem notN_notN(n:NodeD):notN (notN n)=n:=by
 unfold notN;by_cases h:n.kids=[]
 ·simp only[if_pos h,Bool.not_not]
 ·simp only[if_neg h]
theorem notD_notD(g:List NodeD):notD (notD g)=g:=by
 unfold notD;rw[List.map_map];have:notN∘notN=id:=funext notN_notN;rw[this,List.map_id]
section not_
variable {ds:List FactD} {g:List NodeD}
theorem notD_rng{i:Int}:Rng (notD g) i↔Rng g i:=by unfold Rng notD;rw[List.length_map]
theorem notD_at{i:Int}(h:Rng g i):nAt (notD g) i=notN (nAt g i):=by
 obtain⟨n,rfl⟩:=Int.eq_ofNat_of_zero_le h.1;have hn:n<g.length:=by have:=h.2;omega
 rw[nAt_nat hn,nAt_nat (by unfold notD;simpa using hn)];unfold notD;rw[List.getElem_map]
theorem notD_good(h:Good ds g):Good ds (notD g):=by
 constructor
 ·intro n hn;obtain⟨m,hm,rfl⟩:=List.mem_map.1 hn;obtain⟨k1,k2,k3⟩:=notN_kids m;rcases h.proper m hm with e|I
  ·exact Or.inl ⟨by rw[k1];exact e.1,by rw[k3];exact e.2.1,by rw[k2];exact e.2.2⟩
  ·(have e:notN m=m:=by unfold notN;rw[if_neg I.ne]);rw[e];refine Or.inr ⟨I.ne,I.leaf,I.f0,I.f1,I.cuts,I.len,I.asc,λk hk=>notD_rng.2 (I.rng k hk),λk hk=> ?_,I.diff⟩;rw[notD_at (I.rng k hk),(notN_kids _).1,(notN_kids _).2.2];exact I.up k hk
 ·show List.Pairwise (· ≠ ·) _;unfold notD;rw[List.pairwise_map];refine List.Pairwise.imp (λ{a b} hne e=>hne ?_) h.nodup;rw[<-notN_notN a,e,notN_notN]
theorem notD_S(h:Good ds g):∀(r:Nat)(i:Int),Rng g i->rank ds g i≤r->∀c,S ds (notD g) i c= !S ds g i c
 |r,i,hi,hr,c=>by
  have hat:=notD_at hi;by_cases hk:(nAt g i).kids =[]
  ·rw[h.S_leaf hk,(notD_good h).S_leaf (by rw[hat,(notN_kids _).1];exact hk),hat];unfold notN;rw[if_pos hk]
  ·have I:=h.inner hi hk;have hm:=I.kid_rng (c.getD (nAt g i).fact.toNat 0);have hrk:=h.rank_kid hi hm;(have e:notN (nAt g i)=nAt g i:=by unfold notN;rw[if_neg hk]);rw[h.S_inner hi hk,(notD_good h).S_inner (notD_rng.2 hi) (by rw[hat,e];exact hk),hat,e]
   cases r with
   |zero=>omega
   |succ r=>exact notD_S h r _ hrk.1 (by omega) c
theorem notD_visit:∀(k:Nat)(i:Int)(o:List Int),(∀j,(nAt (notD g) j).kids =(nAt g j).kids)->visitS (notD g) k i o=visitS g k i o
 |0,_,_,_=>rfl
 |k+1,i,o,h=>by
  unfold visitS;rw[h i];have:(λ(o:List Int)(x:Int)=>visitS (notD g) k x o)=λo x=>visitS g k x o:=funext λo=>funext λx=>notD_visit k x o h
  rw[this]
theorem notD_kids(j:Int):(nAt (notD g) j).kids =(nAt g j).kids :=by
 unfold nAt notD;rw[List.getD_eq_getElem?_getD,List.getD_eq_getElem?_getD,List.getElem?_map]
 cases g[j.toNat]? with
 |none=>rfl
 |some n=>exact(notN_kids n).1
theorem notD_valid(h:IsValid ds g):IsValid ds (notD g):=by
 refine⟨h.dom,by unfold notD;simp[h.ne],by unfold notD;simpa using h.len,notD_good h.good,?_⟩;have ho:orderS ds (notD g) 0=orderS ds g 0:=notD_visit _ _ _ notD_kids;have hs:=order_spec h.good h.rng;have hc:=h.canon;unfold canonS at hc⊢;rw[ho]
 have:(orderS ds g 0).map (renum (notD g) (orderS ds g 0))=((orderS ds g 0).map (renum g (orderS ds g 0))).map notN:=by
  rw[List.map_map];refine List.map_congr_left λx hx=> ?_
  have hat:=notD_at (hs.rng x hx);obtain⟨k1,k2,k3⟩:=notN_kids (nAt g x);simp only[Function.comp];unfold renum;rw[hat,k1,k2,k3];unfold notN;by_cases e:(nAt g x).kids =[]
  ·simp[e]
  ·simp[e]
 rw[this,hc];rfl
end not_
def PredI(P:Program)(g:FuncId)(lb:Array Value)(w:World)(xs:List Int)(p:Int->Bool):Prop:=
 ∀x∈xs,∀W,Below w.heap.size w W->Calls P g (#[.int .i64 x]++lb) W λe W'=>e= .returned (.bool (p x))∧Below W.heap.size W W'
theorem nx_first(v:Int):∀(l:List Int)(i:Nat)(m:List Int),m.length=i->firstIdx (λj=>decide (v<(m++l).getD j 0)) l.length i=if nx l v<l.length then((i+nx l v:Nat):Int)else-1
 |[],i,m,h=>by simp[firstIdx,nx]
 |c::r,i,m,h=>by
  have e:(m++c::r).getD i 0=c:=by subst h;simp[List.getD_eq_getElem?_getD]
  have ih:=nx_first v r (i+1) (m++[c]) (by simp[h]);rw[show m++[c]++r=m++c::r by simp]at ih;rw[List.length_cons,firstIdx];simp only[e,decide_eq_true_eq];unfold nx;by_cases hv:v<c
  ·rw[if_pos hv,if_pos hv,if_pos (by omega),Nat.add_zero]
  ·rw[if_neg hv,if_neg hv,ih];by_cases hn:nx r v<r.length
   ·rw[if_pos hn,if_pos (by omega)];congr 1;omega
   ·rw[if_neg hn,if_neg (by omega)]
theorem nx_first0(v:Int)(l:List Int):firstIdx (λj=>decide (v<l.getD j 0)) l.length 0=if nx l v<l.length then(nx l v:Int)else-1:=by
 have:=nx_first v l 0 [] rfl;simpa using this
theorem holdsD_step(g:List NodeD)(c:List Int)(k:Nat)(a:Int):holdsD g c (k+1) a=
  if a<0∨(g.length:Int)≤a then false
  else if(nAt g a).kids =[]then(nAt g a).leaf
  else if(nAt g a).fact <0∨(c.length:Int)≤(nAt g a).fact then false
  else if((nAt g a).kids.length :Int)≤nxL (nAt g a) (c.getD (nAt g a).fact.toNat 0)then false
  else holdsD g c k ((nAt g a).kids.getD (nxL (nAt g a) (c.getD (nAt g a).fact.toNat 0)).toNat 0):=rfl
theorem nxL_nonneg{n:NodeD}(h:n.kids≠[])(v:Int):0≤nxL n v:=by
 have:=List.length_pos_iff.2 h;unfold nxL;split<;>omega
theorem Nodes.open_{Z:Zone}{w:World}{v:Value}{ns:List NodeD}(h:Nodes Z w v ns):∃A cap,v= .slice A ns.length cap∧ns.length≤cap∧ns.length≤2199023255552∧
  ∀i(hi:i<ns.length),∃b off vc vk,A=some ⟨b,off,none⟩∧Z b∧b<w.heap.size∧w.cell? ⟨b,off+i*4,none⟩=some (.bool ns[i].leaf)∧w.cell? ⟨b,off+i*4+1,none⟩=some (.int .i64 ns[i].fact)∧
   w.cell? ⟨b,off+i*4+2,none⟩=some vc∧w.cell? ⟨b,off+i*4+3,none⟩=some vk∧I64 ns[i].fact ∧Ints Z w vc ns[i].cuts ∧Ints Z w vk ns[i].kids :=by
 obtain⟨A,cap,rfl,h1,h2,h3,h4⟩:=h;refine⟨A,cap,rfl,h1,by omega,λi hi=> ?_⟩;obtain⟨b,off,cs,rfl,hz,hc,vc,vk,rfl,hf,hic,hik⟩:=h4.at_ hi;exact⟨b,off,vc,vk,rfl,hz,lt_of_cell (hc 0 _ rfl),hc 0 _ rfl,hc 1 _ rfl,hc 2 _ rfl,hc 3 _ rfl,hf,hic,hik⟩
def kidsP(g:List NodeD)(f:Int):Option Int->List Int->Bool
 | _,[]=>true
 |p,k::r=>decide (0≤k)&&decide (k<g.length)&&(match p with|none=>true|some q=>decide (q≠k))&&(decide ((nAt g k).kids =[])||decide (f<(nAt g k).fact))&&kidsP g f (some k) r
theorem kidsB_cons(g:List NodeD)(f k:Int)(r:List Int):kidsB g f (k::r)=((decide (0≤k)&&decide (k<g.length)&&(decide ((nAt g k).kids =[])||decide (f<(nAt g k).fact)))&&(match r with|[]=>true|k'::_=>decide (k≠k'))&&kidsB g f r):=rfl
theorem kidsP_some(g:List NodeD)(f p:Int):∀l:List Int,kidsP g f (some p) l=((match l with|[]=>true|k'::_=>decide (p≠k'))&&kidsB g f l)
 |[]=>by simp[kidsP,kidsB]
 |k::r=>by
  rw[kidsP,kidsP_some g f k r,kidsB_cons];dsimp only;generalize decide (0≤k)=a,decide (k<(g.length:Int))=b,decide (p≠k)=c,decide ((nAt g k).kids =[])=d,decide (f<(nAt g k).fact)=e
  generalize (match r with|[]=>true|k'::_=>decide (k≠k'))=x,kidsB g f r=y
  cases a<;>cases b<;>cases c<;>cases d<;>cases e<;>cases x<;>rfl
theorem kidsP_none(g:List NodeD)(f:Int)(l:List Int):kidsP g f none l=kidsB g f l:=by
 cases l with
 |nil=>rfl
 |cons k r=>
  rw[kidsP,kidsP_some g f k r,kidsB_cons];generalize decide (0≤k)=a,decide (k<(g.length:Int))=b,decide ((nAt g k).kids =[])=d,decide (f<(nAt g k).fact)=e
  generalize (match r with|[]=>true|k'::_=>decide (k≠k'))=x,kidsB g f r=y
  cases a<;>cases b<;>cases d<;>cases e<;>cases x<;>rfl
theorem kidsP_cons(g:List NodeD)(f:Int)(p:Option Int)(k:Int)(r:List Int):kidsP g f p (k::r)=(decide (0≤k)&&decide (k<g.length)&&(match p with|none=>true|some q=>decide (q≠k))&&(decide ((nAt g k).kids =[])||decide (f<(nAt g k).fact))&&kidsP g f (some k) r):=rfl
def prevAt(l:List Int)(k:Nat):Option Int:=if k=0 then none else some (l.getD (k-1) 0)
theorem Facts.open_{Z:Zone}{w:World}{v:Value}{ds:List FactD}(h:Facts Z w v ds):∃A cap,v= .slice A ds.length cap∧ds.length≤cap∧ds.length≤3518437208883∧
  ∀i(hi:i<ds.length),∃b off,A=some ⟨b,off,none⟩∧Z b∧b<w.heap.size∧w.cell? ⟨b,off+i*4,none⟩=some (.string ds[i].name)∧w.cell? ⟨b,off+i*4+1,none⟩=some (.int .i64 ds[i].kind)∧
   w.cell? ⟨b,off+i*4+2,none⟩=some (.int .i64 ds[i].lo)∧w.cell? ⟨b,off+i*4+3,none⟩=some (.int .i64 ds[i].hi)∧ds[i].fit :=by
 obtain⟨⟨A,cap,rfl,h1,h2,h3,h4⟩,hf⟩:=h;refine⟨A,cap,rfl,h1,by omega,λi hi=> ?_⟩;obtain⟨b,off,cs,rfl,hz,hc,rfl⟩:=h4.at_ hi;exact⟨b,off,rfl,hz,lt_of_cell (hc 0 _ rfl),hc 0 _ rfl,hc 1 _ rfl,hc 2 _ rfl,hc 3 _ rfl,hf _ (List.getElem_mem hi)⟩
theorem Blk.new'(w:World)(t:TypeId)(cs:Array Value){n:Nat}(h:n=w.heap.size):Blk (w.alloc (.cells cs t)) n t cs:=by subst h;exact Blk.new w t cs
theorem properB_leaf{ds:List FactD}{g:List NodeD}{n:NodeD}(h:n.kids=[]):properB ds g n=(decide (n.fact=0)&&decide (n.cuts=[])):=if_pos h
theorem properB_in{ds:List FactD}{g:List NodeD}{n:NodeD}(h:n.kids≠[]):properB ds g n=(!n.leaf&&decide (0≤n.fact)&&decide (n.fact<ds.length)&&decide (n.cuts≠[])&&decide (n.kids.length=n.cuts.length+1)&&ascB (fAt ds n.fact).lo (fAt ds n.fact).hi n.cuts&&kidsB g n.fact n.kids):=if_neg h
theorem dec_len0(l:List Int):((l.length:Int)==0)=decide (l=[]):=by
 cases l with
 |nil=>rfl
 |cons a r=>simp;omega
theorem below_dn(w:World)(n:Nat):Below w.heap.size w (w.drewN n):=⟨rfl,rfl,rfl,Nat.le_refl _,λ_ _=>rfl⟩
theorem Ints.form{Z:Zone}{w:World}{v:Value}{xs:List Int}(h:Ints Z w v xs):∃A cap,v= .slice A xs.length cap∧xs.length≤17592186044416:=by
 obtain⟨⟨A,cap,rfl,_,_,h3,_⟩,_⟩:=h;exact⟨A,cap,rfl,by omega⟩
theorem take_eq_step{α:Type}{l m:List α}{k:Nat}(h1:k<l.length)(h2:k<m.length)(h:l.take k=m.take k)(e:l[k]=m[k]):l.take (k+1)=m.take (k+1):=by
 rw[List.take_succ_eq_append_getElem h1,List.take_succ_eq_append_getElem h2,h,e]
end Go.Proofs.YtimmfbnjndndlaaGreatDoor
