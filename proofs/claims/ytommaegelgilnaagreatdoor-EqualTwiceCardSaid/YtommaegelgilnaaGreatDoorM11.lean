/- Lemmas. -/
import Derived.Test.YtommaegelgilnaaGreatDoorM10
set_option linter.all false
namespace Go.Proofs.YtommaegelgilnaaGreatDoor
open Go.RowKit
variable {R:Int->Int->Prop}{a b i k:Int}{l m o:List Int}{n:zB}
def zAI(g:List zB):Nat->Int->List Int->List Int
 |0,_,o=>o
 |k+1,i,o=>if i∈o then o else(nAt g i).kids.foldl (λo x=>zAI g k x o) (o++[i])
def zBm(ds:List zE)(g:List zB)(i:Int):List Int:=zAI g (ds.length+1) i []
def zA3(o:List Int)(k:Int):Int:=if k∈o then(o.idxOf k:Nat)else 0
def zBF(g:List zB)(o:List Int)(i:Int):zB:=⟨(nAt g i).leaf,(nAt g i).fact,(nAt g i).cuts,(nAt g i).kids.map (zA3 o)⟩
def zAr(ds:List zE)(g:List zB)(i:Int):List zB:=(zBm ds g i).map (zBF g (zBm ds g i))
section visit
variable {ds:List zE} {g g1 g2:List zB}
structure zGp (g:List zB) (o o':List Int):Prop where
 pre:∃t,o'=o++t
 nodup:o'.Nodup
 rng:∀x∈o',Rng g x
 kids:∀x∈o',x∉o->∀y∈(nAt g x).kids,y∈o'
theorem zGp.sub{o o':List Int}(h:zGp g o o'){x:Int}(a:x∈o):x∈o':=by
 obtain⟨t,rfl⟩:=h.pre;exact List.mem_append_left _ a
theorem zGp.trans{o o' a:List Int}(h:zGp g o o')(k:zGp g o' a):zGp g o a:=by
 refine⟨?_,k.nodup,k.rng,λx e b y d=> ?_⟩
 ·obtain⟨t,rfl⟩:=h.pre;obtain⟨f,rfl⟩:=k.pre;exact⟨t++f,by simp⟩
 ·by_cases c:x∈o'
  ·exact k.sub (h.kids x c b y d)
  ·exact k.kids x e c y d
theorem zHe(h:Good ds g):∀(k:Nat)(i:Int)(o:List Int),Rng g i->zCS ds g i<k->(∀x∈o,Rng g x)->o.Nodup->zGp g o (zAI g k i o)/\i∈zAI g k i o
 |0,_,_,_,hr,_,_=>by omega
 |k+1,i,o,hi,hr,j,f=>by
  unfold zAI;by_cases q:i∈o
  ·rw[if_pos q];exact⟨⟨⟨[],by simp⟩,f,j,λx c d=>absurd c d⟩,q⟩
  ·rw[if_neg q]
   have n:∀(l o:List Int),(∀x∈l,Rng g x/\zCS ds g x<k)->(∀x∈o,Rng g x)->o.Nodup->
     zGp g o (l.foldl (λo x=>zAI g k x o) o)/\∀x∈l,x∈l.foldl (λo x=>zAI g k x o) o:=by
    intro l
    induction l with
    |nil=>intro o _ j f;exact⟨⟨⟨[],by simp⟩,f,j,λx c d=>absurd c d⟩,by simp⟩
    |cons a l ih=>
     intro o s j f;obtain⟨z,E⟩:=zHe h k a o (s a (by simp)).1 (s a (by simp)).2 j f;obtain⟨C,F⟩:=ih (zAI g k a o) (λx c=>s x (List.mem_cons_of_mem _ c)) z.rng z.nodup;refine⟨z.trans C,λx c=> ?_⟩;rcases List.mem_cons.1 c with rfl|c
     ·exact C.sub E
     ·exact F x c
   have w:∀x∈o++[i],Rng g x:=λx c=>by
    rcases List.mem_append.1 c with c|c
    ·exact j x c
    ·simp at c;rw[c];exact hi
   have u:(o++[i]).Nodup :=by
    rw[List.nodup_append];exact⟨f,by simp,λa D b A e=>by simp at A;subst A;exact q (e▸D)⟩
   obtain⟨v,m⟩:=n (nAt g i).kids (o++[i]) (λx c=>by have:=h.rank_kid hi c;exact⟨this.1,by omega⟩) w u;refine⟨⟨?_,v.nodup,v.rng,λx c d y B=> ?_⟩,v.sub (by simp)⟩
   ·obtain⟨t,e⟩:=v.pre;exact⟨i::t,by rw[e];simp⟩
   ·by_cases e:x=i
    ·subst e;exact m y B
    ·exact v.kids x c (by simp[d,e]) y B
theorem zP5(h:Good ds g)(k:Nat)(i:Int):∃t,zAI g (k+1) i []=i::t:=by
 have b:∀(l o:List Int),∃t,l.foldl (λo x=>zAI g k x o) o=o++t:=by
  have d:∀(k:Nat)(i:Int)(o:List Int),∃t,zAI g k i o=o++t:=by
   intro k
   induction k with
   |zero=>intro i o;exact⟨[],by simp[zAI]⟩
   |succ k ih=>
    intro i o;unfold zAI;split
    ·exact⟨[],by simp⟩
    ·have:∀(l o:List Int),∃t,l.foldl (λo x=>zAI g k x o) o=o++t:=by
      intro l
      induction l with
      |nil=>intro o;exact⟨[],by simp⟩
      |cons a l ih'=>
       intro o;obtain⟨t,e⟩:=ih a o;obtain⟨f,c⟩:=ih' (zAI g k a o);exact⟨t++f,by rw[List.foldl_cons,c,e];simp⟩
     obtain⟨t,e⟩:=this (nAt g i).kids (o++[i]);exact⟨i::t,by rw[e];simp⟩
  intro l
  induction l with
  |nil=>intro o;exact⟨[],by simp⟩
  |cons a l ih=>
   intro o;obtain⟨t,e⟩:=d k a o;obtain⟨f,c⟩:=ih (zAI g k a o);exact⟨t++f,by rw[List.foldl_cons,c,e];simp⟩
 unfold zAI;rw[if_neg (by simp)];obtain⟨t,e⟩:=b (nAt g i).kids ([]++[i]);exact⟨t,by rw[e];rfl⟩
structure zJV (ds:List zE) (g:List zB) (i:Int) (o:List Int):Prop where
 head:∃t,o=i::t
 nodup:o.Nodup
 rng:∀x∈o,Rng g x
 kids:∀x∈o,∀y∈(nAt g x).kids,y∈o
theorem zEI(h:Good ds g)(hi:Rng g i):zJV ds g i (zBm ds g i):=by
 have b:=zDh (ds:=ds) (g:=g) i;obtain⟨v,_⟩:=zHe h (ds.length+1) i [] hi (by omega) (by simp) (by simp);exact⟨zP5 h ds.length i,v.nodup,v.rng,λx a=>v.kids x a (by simp)⟩
theorem zEs:∀(n:Nat)(l:List Int),l.Nodup->(∀x∈l,0<=x/\x<n)->l.length<=n
 |0,l,_,h=>by
  cases l with
  |nil=>simp
  |cons a r=>have:=h a (by simp);omega
 |n+1,l,hn,h=>by
  have f:(l.erase (n:Int)).length <=n:=zEs n _ (hn.erase _) (λx c=>by
   have a:=h x (List.mem_of_mem_erase c)
   have b:x≠(n:Int):=λe=>by
    subst e;have:=(List.Nodup.mem_erase_iff hn).1 c;exact this.1 rfl
   omega)
  have d:=List.length_erase (a:=(n:Int)) (l:=l);split at d<;>omega
theorem zJV.length_le(h:zJV ds g i o):o.length<=g.length:=zEs _ _ h.nodup h.rng
inductive R2 (R:Int->Int->Prop):List Int->List Int->Prop where
 |nil:R2 R [] []
 |cons {a b:Int} {l m:List Int}:R a b->R2 R l m->R2 R (a::l) (b::m)
theorem R2.of_getD{R:Int->Int->Prop}:∀{l m:List Int},l.length=m.length->(∀j,j<l.length->R (l.getD j 0) (m.getD j 0))->R2 R l m
 |[],[],_,_=> .nil
 |[],_::_,h,_=>by simp at h
 | _::_,[],h,_=>by simp at h
 |a::l,b::m,h,hj=> .cons (by simpa using hj 0 (by simp)) (R2.of_getD (by simpa using h) λj c=>by simpa using hj (j+1) (by simpa using c))
theorem R2.append{l m a m':List Int}(h:R2 R l m)(b:R2 R a m'):R2 R (l++a) (m++m'):=by
 induction h with
 |nil=>exact b
 |cons h _ ih=>exact .cons h ih
theorem R2.mem(i:∀a d b,R a b->R d b->a=d)(g:∀a b f,R a b->R a f->b=f)(h:R2 R l m)(c:R a b):a∈l↔b∈m:=by
 induction h with
 |nil=>simp
 |cons h _ ih=>
  rename_i x y l m _;simp only[List.mem_cons,ih];refine or_congr ⟨λe=> ?_,λe=> ?_⟩ Iff.rfl
  ·subst e;exact g _ _ _ c h
  ·subst e;exact i _ _ _ c h
theorem R2.idx(i:∀a d b,R a b->R d b->a=d)(g:∀a b f,R a b->R a f->b=f)(h:R2 R l m)(c:R a b):l.idxOf a=m.idxOf b:=by
 induction h with
 |nil=>rfl
 |cons h _ ih=>
  rename_i x y l m _;rw[List.idxOf_cons,List.idxOf_cons,ih]
  have:(x==a)=(y==b):=by
   rw[Bool.eq_iff_iff,beq_iff_eq,beq_iff_eq];constructor
   ·intro e;subst e;exact g _ _ _ h c
   ·intro e;subst e;exact i _ _ _ h c
  rw[this]
theorem R2.map_eq{α:Type}{f f':Int->α}(h:R2 R l m)(c:∀a b,R a b->f a=f' b):l.map f=m.map f':=by
 induction h with
 |nil=>rfl
 |cons h _ ih=>rw[List.map_cons,List.map_cons,ih,c _ _ h]
theorem zLx{R:Int->Int->Prop}(u:∀a j b,R a b->R j b->a=j)(s:∀a b n,R a b->R a n->b=n)(q:∀a b,R a b->R2 R (nAt g1 a).kids (nAt g2 b).kids):
  ∀(k:Nat)(a b:Int)(c d:List Int),R a b->R2 R c d->R2 R (zAI g1 k a c) (zAI g2 k b d)
 |0,_,_,_,_,_,h=>by simpa[zAI]using h
 |k+1,a,b,c,d,hab,h=>by
  unfold zAI;have t:=R2.mem u s h hab;by_cases f:a∈c
  ·rw[if_pos f,if_pos (t.1 f)];exact h
  ·rw[if_neg f,if_neg (λh=>f (t.2 h))]
   have e:∀{l m:List Int},R2 R l m->∀c d,R2 R c d->R2 R (l.foldl (λo x=>zAI g1 k x o) c) (m.foldl (λo x=>zAI g2 k x o) d):=by
    intro l m g
    induction g with
    |nil=>intro c d i;exact i
    |cons h _ ih=>intro c d i;exact ih _ _ (zLx u s q k _ _ _ _ h i)
   exact e (q a b hab) _ _ (h.append (.cons hab .nil))
theorem zSW(o:zDt ds)(m:Good ds g1)(n:Good ds g2)(B:Rng g1 a)(C:Rng g2 b)(he:EqS ds g1 g2 a b):zAr ds g1 a=zAr ds g2 b:=by
 let R:Int->Int->Prop:=λa b=>Rng g1 a/\Rng g2 b/\EqS ds g1 g2 a b
 have s:∀a w b,R a b->R w b->a=w:=λa w b h g=>m.uniq o h.1 g.1 λc i=>by rw[h.2.2 c i,g.2.2 c i]
 have d:∀a b z,R a b->R a z->b=z:=λa b z h g=>n.uniq o h.2.1 g.2.1 λc i=>by rw[<-h.2.2 c i,<-g.2.2 c i]
 have k:∀a b,R a b->R2 R (nAt g1 a).kids (nAt g2 b).kids :=λa b h=>by
  have K:=Good.alike o m n h.1 h.2.1 h.2.2;exact R2.of_getD K.len λj A=>⟨(m.rank_kid h.1 (zBa A)).1,(n.rank_kid h.2.1 (zBa (K.len▸A))).1,K.kids j A⟩
 have q:R2 R (zBm ds g1 a) (zBm ds g2 b):=zLx s d k _ _ _ _ _ ⟨B,C,he⟩ .nil;unfold zAr;refine q.map_eq λx y e=> ?_
 have K:=Good.alike o m n e.1 e.2.1 e.2.2;unfold zBF;refine zB.ext' K.leaf K.fact K.cuts ?_;refine(k x y e).map_eq λu v f=> ?_
 unfold zA3;by_cases t:u∈zBm ds g1 a
 ·rw[if_pos t,if_pos ((q.mem s d f).1 t),q.idx s d f]
 ·rw[if_neg t,if_neg (λh=>t ((q.mem s d f).2 h))]
end visit
section renumber
variable {ds:List zE} {g:List zB} {i:Int} {o:List Int}
theorem zLy(a:k∈o):0<=zA3 o k/\zA3 o k<o.length:=by
 unfold zA3;rw[if_pos a];have:=List.idxOf_lt_length_of_mem a;omega
theorem zLz(c:a∈o)(d:b∈o)(h:zA3 o a=zA3 o b):a=b:=by
 unfold zA3 at h;rw[if_pos c,if_pos d]at h;have f:=List.getElem_idxOf (List.idxOf_lt_length_of_mem c);have g:=List.getElem_idxOf (List.idxOf_lt_length_of_mem d);have e:o.idxOf a=o.idxOf b:=by omega
 rw[<-f,<-g];simp only[e]
theorem zNN{f:Int->zB}(b:k∈o):nAt (o.map f) (zA3 o k)=f k:=by
 have a:=List.idxOf_lt_length_of_mem b;unfold zA3;rw[if_pos b,zCB (by simpa using a),List.getElem_map,List.getElem_idxOf a]
theorem zK3(h:Good ds g)(s:zJV ds g i o):Good ds (o.map (zBF g o)):=by
 constructor
 ·intro n C;obtain⟨x,A,rfl⟩:=List.mem_map.1 C;rcases h.proper _ (zEj (s.rng x A))with t|I
  ·left;exact⟨by simp[zBF,t.1],t.2.1,t.2.2⟩
  ·right;have c:=s.kids x A;refine⟨by simp[zBF,I.ne],I.leaf,I.f0,I.f1,I.cuts,by simp[zBF,I.len],I.asc,λk v=> ?_,λk v=> ?_,λj f=> ?_⟩
   ·obtain⟨y,u,rfl⟩:=List.mem_map.1 v;have:=zLy (c y u);exact⟨this.1,by rw[List.length_map];exact this.2⟩
   ·obtain⟨y,u,rfl⟩:=List.mem_map.1 v;rw[zNN (c y u)];intro q;exact I.up y u (by intro e;simp[zBF,e]at q)
   ·have m:j+1<(nAt g x).kids.length :=by simpa[zBF]using f
    have e:∀j,j<(nAt g x).kids.length ->(zBF g o x).kids.getD j 0=zA3 o ((nAt g x).kids.getD j 0):=λj f=>by
     simp[zBF,List.getD_eq_getElem?_getD,List.getElem?_eq_getElem f]
    rw[e j (by omega),e (j+1) m];intro B;exact I.diff j m (zLz (c _ (zBa (by omega))) (c _ (zBa m)) B)
 ·have t:(o.map (zBF g o)).Pairwise (· ≠ ·):=by
   rw[List.pairwise_map];refine List.Pairwise.imp_of_mem (R:=(· ≠ ·)) (λ{a b} ha hb q e=>q ?_) s.nodup;unfold zBF at e;injection e with e1 e2 e3 e4;refine zKD h.nodup (s.rng a ha) (s.rng b hb) (zB.ext' e1 e2 e3 ?_);have w:=s.kids a ha;have z:=s.kids b hb;(have d:(nAt g a).kids.length =(nAt g b).kids.length :=by have:=congrArg List.length e4;simpa using this);(refine zFt d λj f=> ?_);refine zLz (w _ (zBa f)) (z _ (zBa (d▸f))) ?_;have:=congrArg (λl=>l.getD j 0) e4;simpa[List.getD_eq_getElem?_getD,List.getElem?_eq_getElem f,List.getElem?_eq_getElem (d▸f)]using this
  exact t
theorem zPI(h:Good ds g)(d:zJV ds g i o):∀(r:Nat)(x:Int),x∈o->zCS ds g x<=r->∀c,S ds (o.map (zBF g o)) (zA3 o x) c=S ds g x c
 |r,x,hx,hr,c=>by
  have m:=zK3 h d;have f:=d.rng x hx;have a:nAt (o.map (zBF g o)) (zA3 o x)=zBF g o x:=zNN hx;have s:=zLy hx;have j:Rng (o.map (zBF g o)) (zA3 o x):=⟨s.1,by rw[List.length_map];exact s.2⟩;by_cases b:(nAt g x).kids =[]
  ·rw[h.S_leaf b,m.S_leaf (by rw[a];simp[zBF,b]),a];rfl
  ·rw[h.S_inner f b,m.S_inner j (by rw[a];simp[zBF,b]),a];have I:=h.inner f b;have n:=I.kid_rng (c.getD (nAt g x).fact.toNat 0);have t:=h.rank_kid f n;have k:nx (nAt g x).cuts (c.getD (nAt g x).fact.toNat 0)<(nAt g x).kids.length :=by have:=zEr (nAt g x).cuts (c.getD (nAt g x).fact.toNat 0);have:=I.len;omega
   have e:(zBF g o x).kids.getD (nx (zBF g o x).cuts (c.getD (zBF g o x).fact.toNat 0)) 0=zA3 o ((nAt g x).kids.getD (nx (nAt g x).cuts (c.getD (nAt g x).fact.toNat 0)) 0):=by
    show((nAt g x).kids.map (zA3 o)).getD (nx (nAt g x).cuts (c.getD (nAt g x).fact.toNat 0)) 0=_;generalize nx (nAt g x).cuts (c.getD (nAt g x).fact.toNat 0)=q at*;simp[List.getD_eq_getElem?_getD,List.getElem?_eq_getElem k]
   rw[e]
   cases r with
   |zero=>omega
   |succ r=>exact zPI h d r _ (d.kids x hx _ n) (by omega) c
theorem zP6(a:zJV ds g i o):zA3 o i=0:=by
 obtain⟨t,rfl⟩:=a.head;unfold zA3;rw[if_pos (by simp)];simp
theorem zK4(h:Good ds g)(hi:Rng g i):Good ds (zAr ds g i):=zK3 h (zEI h hi)
theorem zMA(h:Good ds g)(hi:Rng g i):Rng (zAr ds g i) 0:=by
 obtain⟨t,e⟩:=(zEI h hi).head;refine⟨Int.le_refl _,?_⟩;unfold zAr;rw[List.length_map,e];simp
theorem zL1(h:Good ds g)(hi:Rng g i)(c:List Int):S ds (zAr ds g i) 0 c=S ds g i c:=by
 have a:=zEI h hi;have:=zPI h a _ i (by obtain⟨t,e⟩:=a.head;rw[e];simp) (Nat.le_refl _) c;rw[zP6 a]at this;exact this
theorem zOY(a:zDt ds)(h:Good ds g)(hi:Rng g i):zAr ds (zAr ds g i) 0=zAr ds g i:=
 zSW a (zK4 h hi) h (zMA h hi) hi λc _=>zL1 h hi c
end renumber
def zy(all:List zB)(n:zB):Int × List zB:=if n∈all then((all.idxOf n:Nat),all)else((all.length:Nat),all++[n])
def zX:Int->List Int->List Int->List Int × List Int
 |last,s::ss,k::ks=>if k=last then zX last ss ks else(s::(zX k ss ks).1,k::(zX k ss ks).2)
 | _,_,_=>([],[])
def zAb(all:List zB)(i:Int)(starts kids:List Int):Int × List zB:=
 if(zX (kids.getD 0 0) starts kids).2=[]then(kids.getD 0 0,all)
 else zy all ⟨false,i,(zX (kids.getD 0 0) starts kids).1,kids.getD 0 0::(zX (kids.getD 0 0) starts kids).2⟩
section ext
variable {ds:List zE} {g t:List zB}
theorem Rng.app(h:Rng g i)(t:List zB):Rng (g++t) i:=⟨h.1,by have:=h.2;simp;omega⟩
theorem zFU(h:Rng g i)(t:List zB):nAt (g++t) i=nAt g i:=by
 unfold nAt;have a:=h.1;have b:=h.2;have:i.toNat<g.length:=by omega
 rw[List.getD_eq_getElem?_getD,List.getD_eq_getElem?_getD,List.getElem?_append_left this]
theorem zTS(h:Good ds g)(b:Good ds (g++t)):∀(r:Nat)(i:Int),Rng g i->zCS ds g i<=r->∀c,S ds (g++t) i c=S ds g i c
 |r,i,hi,hr,c=>by
  by_cases a:(nAt g i).kids =[]
  ·rw[h.S_leaf a,b.S_leaf (by rw[zFU hi];exact a),zFU hi]
  ·have I:=h.inner hi a;have e:=I.kid_rng (c.getD (nAt g i).fact.toNat 0);have d:=h.rank_kid hi e;rw[h.S_inner hi a,b.S_inner (hi.app t) (by rw[zFU hi];exact a),zFU hi]
   cases r with
   |zero=>omega
   |succ r=>exact zTS h b r _ d.1 (by omega) c
theorem zNO(h:Good ds g)(a:Good ds (g++t))(hi:Rng g i)(c:List Int):S ds (g++t) i c=S ds g i c:=zTS h a _ i hi (Nat.le_refl _) c
theorem zDm.app(h:zDm ds g n)(t:List zB):zDm ds (g++t) n:=
 ⟨h.ne,h.leaf,h.f0,h.f1,h.cuts,h.len,h.asc,λk a=>(h.rng k a).app t,λk a=>by rw[zFU (h.rng k a)];exact h.up k a,h.diff⟩
theorem zFe.app(h:zFe ds g n)(t:List zB):zFe ds (g++t) n:=h.imp id (λh=>h.app t)
theorem Good.nil(ds:List zE):Good ds []:=⟨λ_ h=>absurd h (by simp),by simp⟩
structure Made (ds:List zE) (g g':List zB) (i:Int):Prop where
 pre:∃t,g'=g++t
 good:Good ds g'
 rng:Rng g' i
theorem Made.S_old{a:List zB}{i j:Int}(h:Made ds g a i)(b:Good ds g)(d:Rng g j)(c:List Int):S ds a j c=S ds g j c:=by
 obtain⟨t,rfl⟩:=h.pre;exact zNO b h.good d c
theorem zI8(h:Good ds g)(o:zFe ds g n):Made ds g (zy g n).2 (zy g n).1/\nAt (zy g n).2 (zy g n).1=n:=by
 unfold zy;by_cases f:n∈g
 ·rw[if_pos f];have c:=List.idxOf_lt_length_of_mem f;refine⟨⟨⟨[],by simp⟩,h,⟨by simp,by simpa using c⟩⟩,?_⟩;rw[zCB c,List.getElem_idxOf c]
 ·rw[if_neg f];have q:Rng (g++[n]) (g.length:Nat):=⟨by omega,by simp;omega⟩;refine⟨⟨⟨[n],rfl⟩,⟨λm i=> ?_,?_⟩,q⟩,?_⟩
  ·rcases List.mem_append.1 i with d|d
   ·exact(h.proper m d).app _
   ·simp at d;rw[d];exact o.app _
  ·rw[List.nodup_append];exact⟨h.nodup,by simp,λa k b j e=>by simp at j;subst j;exact f (e▸k)⟩
  ·simp only;rw[zCB (by simp)];simp
end ext
theorem zFf:∀(last:Int)(ss ks:List Int),(zX last ss ks).1.length =(zX last ss ks).2.length
 |last,s::ss,k::ks=>by
  unfold zX;split
  ·exact zFf last ss ks
  ·simp[zFf k ss ks]
 | _,[],_=>rfl
 | _,_::_,[]=>rfl
theorem zI9:∀(last lo hi:Int)(ss ks:List Int),zAE lo hi ss->zAE lo hi (zX last ss ks).1
 |last,lo,hi,s::ss,k::ks,h=>by
  unfold zX;split
  ·exact zI9 last lo hi ss ks (zNL h.2.2 (Int.le_of_lt h.1))
  ·exact⟨h.1,h.2.1,zI9 k s hi ss ks h.2.2⟩
 | _,_,_,[],_,_=>trivial
 | _,_,_,_::_,[],_=>trivial
theorem zGq:∀(last:Int)(ss ks:List Int),∀k∈(zX last ss ks).2,k∈ks
 |last,s::ss,k::ks,x,a=>by
  unfold zX at a;split at a
  ·exact List.mem_cons_of_mem _ (zGq last ss ks x a)
  ·rcases List.mem_cons.1 a with rfl|a
   ·simp
   ·exact List.mem_cons_of_mem _ (zGq k ss ks x a)
 | _,[],_,_,h=>absurd h (by simp[zX])
 | _,_::_,[],_,h=>absurd h (by simp[zX])
theorem zHf:∀(last:Int)(ss ks:List Int)(j:Nat),j+1<(last::(zX last ss ks).2).length ->(last::(zX last ss ks).2).getD j 0≠(last::(zX last ss ks).2).getD (j+1) 0
 |last,s::ss,k::ks,j,hj=>by
  unfold zX at hj⊢;split
  ·rename_i h;rw[if_pos h]at hj;exact zHf last ss ks j hj
  ·rename_i h;rw[if_neg h]at hj
   cases j with
   |zero=>simp;exact λe=>h e.symm
   |succ j=>
    have:=zHf k ss ks j (by simpa using hj);simpa using this
 | _,[],_,j,hj=>by simp[zX]at hj
 | _,_::_,[],j,hj=>by simp[zX]at hj
theorem zHg:∀(last lo hi:Int)(ss ks:List Int)(v:Int),ss.length=ks.length->zAE lo hi ss->
  (last::(zX last ss ks).2).getD (nx (zX last ss ks).1 v) 0=(last::ks).getD (nx ss v) 0
 |last,lo,hi,s::ss,k::ks,v,hl,h=>by
  have b:ss.length=ks.length:=by simpa using hl
  unfold zX;by_cases c:k=last
  ·rw[if_pos c,zHg last s hi ss ks v b h.2.2];rw[show nx (s::ss) v=if v<s then 0 else nx ss v+1 from rfl];by_cases a:v<s
   ·rw[if_pos a,zNK h.2.2 (v:=v) (by omega)];rfl
   ·rw[if_neg a,c,List.getD_cons_succ]
  ·rw[if_neg c];simp only[nx];by_cases a:v<s
   ·rw[if_pos a,if_pos a];rfl
   ·rw[if_neg a,if_neg a,List.getD_cons_succ,List.getD_cons_succ];exact zHg k s hi ss ks v b h.2.2
 | _,_,_,[],[],_,_,_=>by simp[zX,nx]
 | _,_,_,[],_::_,_,h,_=>by simp at h
 | _,_,_,_::_,[],_,h,_=>by simp at h
theorem zJ9(k:Int)(s:Int)(ss ks:List Int):zX k (s::ss) (k::ks)=zX k ss ks:=by
 rw[zX,if_pos rfl]
theorem zK5{ds:List zE}{g:List zB}(h:Good ds g){i:Nat}(hi:i<ds.length){rest:List Int}{a:Int}{ks:List Int}(z:rest.length=ks.length)
  (u:zAE (ds.getD i zAP).lo (ds.getD i zAP).hi rest)(t:∀k∈a::ks,Rng g k)(x:∀k∈a::ks,(nAt g k).kids ≠[]->(i:Int)<(nAt g k).fact):
  Made ds g (zAb g i ((ds.getD i zAP).lo ::rest) (a::ks)).2 (zAb g i ((ds.getD i zAP).lo ::rest) (a::ks)).1/\
  (∀c,S ds (zAb g i ((ds.getD i zAP).lo ::rest) (a::ks)).2 (zAb g i ((ds.getD i zAP).lo ::rest) (a::ks)).1 c=S ds g ((a::ks).getD (nx rest (c.getD i 0)) 0) c)/\
  ((nAt (zAb g i ((ds.getD i zAP).lo ::rest) (a::ks)).2 (zAb g i ((ds.getD i zAP).lo ::rest) (a::ks)).1).kids ≠[]->
   (i:Int)<=(nAt (zAb g i ((ds.getD i zAP).lo ::rest) (a::ks)).2 (zAb g i ((ds.getD i zAP).lo ::rest) (a::ks)).1).fact):=by
 unfold zAb;simp only[List.getD_cons_zero,zJ9];have w:=λv=>zHg a _ _ rest ks v z u
 have b:=zFf a rest ks;have q:=zI9 a _ _ rest ks u;have s:=zGq a rest ks;have o:=zHf a rest ks;generalize zX a rest ks=m at*;by_cases he:m.2=[]
 ·rw[if_pos he];refine⟨⟨⟨[],by simp⟩,h,t a (by simp)⟩,λc=> ?_,λf=>Int.le_of_lt (x a (by simp) f)⟩;have y:m.1=[]:=List.eq_nil_of_length_eq_zero (by rw[b,he];rfl);rw[<-w,y,he];rfl
 ·rw[if_neg he]
  have d:∀k∈a::m.2,k∈a::ks:=λk f=>by
   rcases List.mem_cons.1 f with rfl|f
   ·simp
   ·exact List.mem_cons_of_mem _ (s k f)
  have I:zDm ds g ⟨false,i,m.1,a::m.2⟩:=by
   refine⟨by simp,rfl,by simp,by simpa using hi,λe=>he (List.eq_nil_of_length_eq_zero (by rw[<-b];simp at e;rw[e];rfl)),by simp[b],?_,λk f=>t k (d k f),λk f=>x k (d k f),o⟩;show zAE (fAt ds (i:Nat)).lo (fAt ds (i:Nat)).hi m.1;unfold fAt;rw[Int.toNat_natCast];exact q
  obtain⟨M,j⟩:=zI8 h (n:=⟨false,i,m.1,a::m.2⟩) (Or.inr I);refine⟨M,λc=> ?_,λ_=> ?_⟩
  ·rw[M.good.S_inner M.rng (by rw[j];simp),j];simp only[Int.toNat_natCast];rw[w];refine M.S_old h (t _ ?_) c;have A:=zEr rest (c.getD i 0);exact zBa (by simp only[List.length_cons];omega)
  ·rw[j];exact Int.le_refl _
end Go.Proofs.YtommaegelgilnaaGreatDoor
