/- Texts CA CH CI MP. -/
import Derived.Test.YtonmdbdopchkaaaGreatDoorM6
import Derived.Test.YtonmdbdopchkaaaGreatDoorM8
import Derived.ChangeKeysEq
import Derived.DeepKeys3
set_option linter.all false
namespace Go.Proofs.YtonmdbdopchkaaaGreatDoor
open Go.RowKit
def zAE:List Int->Int->List Int
 |[],n=>[n]
 |a::r,n=>if n<a then n::a::r else if n=a then a::r else a::zAE r n
def zD2(l:List Int):List Int:=l.foldl zAE []
theorem zJr(l:List Int)(n v:Int):v∈zAE l n↔v=n∨v∈l:=by
 induction l with
 |nil=>simp[zAE]
 |cons a r ih=>
  unfold zAE;split
  ·simp
  ·split
   ·rename_i h;subst h;simp
   ·simp only[List.mem_cons,ih];constructor
    ·rintro(h|h|h)<;>simp[h]
    ·rintro(h|h|h)<;>simp[h]
theorem zJs:∀{l:List Int}{lo hi n:Int},zk lo hi l->lo<n->n≤hi->zk lo hi (zAE l n)
 |[],_,_,_,_,h1,h2=>⟨h1,h2,trivial⟩
 |a::r,lo,hi,n,h,h1,h2=>by
  unfold zAE;split
  ·rename_i ha;exact⟨h1,h2,ha,h.2.1,h.2.2⟩
  ·split
   ·exact h
   ·exact⟨h.1,h.2.1,zJs h.2.2 (by omega) h2⟩
theorem zL3(l:List Int):∀(m:List Int)(v:Int),v∈l.foldl zAE m↔v∈m∨v∈l:=by
 induction l with
 |nil=>intro m v;simp
 |cons a r ih=>
  intro m v;rw[List.foldl_cons,ih,zJr];simp only[List.mem_cons];constructor
  ·rintro((h|h)|h)
   ·exact Or.inr (Or.inl h)
   ·exact Or.inl h
   ·exact Or.inr (Or.inr h)
  ·rintro(h|h|h)
   ·exact Or.inl (Or.inr h)
   ·exact Or.inl (Or.inl h)
   ·exact Or.inr h
theorem zHI{lo hi:Int}:∀(l m:List Int),zk lo hi m->(∀v∈l,lo<v∧v≤hi)->zk lo hi (l.foldl zAE m)
 |[],_,h,_=>h
 |a::r,m,h,hl=>zHI r _ (zJs h (hl a (by simp)).1 (hl a (by simp)).2) λv hv=>hl v (List.mem_cons_of_mem _ hv)
theorem zCb(l:List Int)(v:Int):v∈zD2 l↔v∈l:=by unfold zD2;rw[zL3];simp
theorem zE1{lo hi:Int}{l:List Int}(h:∀v∈l,lo<v∧v≤hi):zk lo hi (zD2 l):=zHI l [] trivial h
theorem zCj:∀{l:List Int}{lo hi v:Int},zk lo hi l->lo≤v->zn lo l (nx l v)≤v
 |[],_,_,_,_,h=>by simpa[nx,zn]using h
 |c::r,lo,hi,v,h,hv=>by
  unfold nx;split
  ·simpa[zn]using hv
  ·have:=zCj (l:=r) (lo:=c) (v:=v) h.2.2 (by omega);unfold zn at this⊢;simp only[Nat.succ_ne_zero,if_false,Nat.add_sub_cancel];split at this
   ·rename_i h0;rw[h0];simpa using this
   ·rename_i h0;obtain⟨q,hq⟩:∃q,nx r v=q+1:=⟨nx r v-1,by omega⟩;rw[hq]at this⊢;simpa using this
theorem zCt:∀{l:List Int}{lo hi v x:Int},zk lo hi l->x∈l->zn lo l (nx l v)<x->v<x
 |[],_,_,_,_,_,h,_=>absurd h (by simp)
 |c::r,lo,hi,v,x,h,hx,hs=>by
  unfold nx at hs;by_cases hv:v<c
  ·rcases List.mem_cons.1 hx with rfl|hx
   ·exact hv
   ·have:=(zA3 h.2.2 x hx).1;omega
  ·rw[if_neg hv]at hs
   have hs':zn c r (nx r v)<x:=by
    unfold zn at hs⊢;simp only[Nat.succ_ne_zero,if_false,Nat.add_sub_cancel]at hs;split
    ·rename_i h0;rw[h0]at hs;simpa using hs
    ·rename_i h0;obtain⟨q,hq⟩:∃q,nx r v=q+1:=⟨nx r v-1,by omega⟩;rw[hq]at hs⊢;simpa using hs
   rcases List.mem_cons.1 hx with rfl|hx
   ·have:=zCj (l:=r) (lo:=x) (v:=v) h.2.2 (by omega);unfold zn at hs';split at hs'
    ·omega
    ·exfalso;(have hlt:nx r v-1<r.length:=by have:=zCs r v;omega);rw[List.getD_eq_getElem?_getD,List.getElem?_eq_getElem hlt]at hs';have:=(zA3 h.2.2 _ (List.getElem_mem hlt)).1;simp at hs';omega
   ·exact zCt h.2.2 hx hs'
theorem zJM{m:List Int}{v s:Int}(h1:s≤v)(h2:∀x∈m,s<x->v<x):nx m s=nx m v:=by
 induction m with
 |nil=>rfl
 |cons c r ih=>
  unfold nx;have hc:=h2 c (by simp);by_cases h:s<c
  ·rw[if_pos h,if_pos (hc h)]
  ·rw[if_neg h,if_neg (by omega),ih λx hx=>h2 x (List.mem_cons_of_mem _ hx)]
def kvI{κ:Type}[DecidableEq κ]:List (κ × Int)->κ->Option Int
 |[],_=>none
 |p::r,x=>if x=p.1 then some p.2 else kvI r x
def zCI{κ:Type}[DecidableEq κ]:List (κ × Int)->κ->Int->List (κ × Int)
 |[],x,v=>[(x,v)]
 |p::r,x,v=>if x=p.1 then(p.1,v)::r else p::zCI r x v
theorem zHJ{κ:Type}[DecidableEq κ]{x:κ}{v:Int}:∀{l:List (κ × Int)},kvI l x=some v->(x,v)∈l
 |[],h=>by simp[kvI]at h
 |p::r,h=>by
  unfold kvI at h;split at h
  ·rename_i e;injection h with h;subst h;subst e;simp
  ·exact List.mem_cons_of_mem _ (zHJ h)
theorem zDp{κ:Type}[DecidableEq κ]{x:κ}{v:Int}{p:κ × Int}:∀{l:List (κ × Int)},p∈zCI l x v->p∈l∨p=(x,v)
 |[],h=>by simp[zCI]at h;exact Or.inr h
 |q::r,h=>by
  unfold zCI at h;split at h
  ·rename_i e;subst e;rcases List.mem_cons.1 h with h|h
   ·exact Or.inr h
   ·exact Or.inl (List.mem_cons_of_mem _ h)
  ·rcases List.mem_cons.1 h with h|h
   ·exact Or.inl (by simp[h])
   ·rcases zDp h with h|h
    ·exact Or.inl (List.mem_cons_of_mem _ h)
    ·exact Or.inr h
def zF(ds:List zC)(n:zB):Int:=if n.kids=[]then ds.length else n.fact
def zG(g:List zB)(at_ i v:Int):Int:=if(nAt g at_).kids ≠[]∧(nAt g at_).fact =i then(nAt g at_).kids.getD (nx (nAt g at_).cuts v) 0 else at_
structure ASt where
 all:List zB
 done:List ((Int × Int) × Int)
def zi(ds:List zC)(p q:zB):List Int:=
 (fAt ds (min (zF ds p) (zF ds q))).lo ::zD2 ((if zF ds p=min (zF ds p) (zF ds q)then p.cuts else[])++(if zF ds q=min (zF ds p) (zF ds q)then q.cuts else[]))
def zH{σ:Type}(f:Int->σ->Int × σ):List Int->σ->List Int × σ
 |[],st=>([],st)
 |v::l,st=>((f v st).1::(zH f l (f v st).2).1,(zH f l (f v st).2).2)
def zAR(ds:List zC)(a b:List zB):Nat->Int->Int->ASt->Int × ASt
 |0,_,_,st=>(0,st)
 |k+1,x,y,st=>
  match kvI st.done (x,y)with
  |some r=>(r,st)
  |none=>
   if min (zF ds (nAt a x)) (zF ds (nAt b y))=ds.length∨4000<st.all.length then
    ((zW st.all ⟨(nAt a x).leaf &&(nAt b y).leaf,0,[],[]⟩).1,⟨(zW st.all ⟨(nAt a x).leaf &&(nAt b y).leaf,0,[],[]⟩).2,st.done⟩)
   else
    let i:=min (zF ds (nAt a x)) (zF ds (nAt b y));let r:=zH (λv st=>zAR ds a b k (zG a x i v) (zG b y i v) st) (zi ds (nAt a x) (nAt b y)) st;let o:=zb r.2.all i (zi ds (nAt a x) (nAt b y)) r.1
    (o.1,⟨o.2,zCI r.2.done (x,y) o.1⟩)
theorem zDH(all:List zB)(n:zB):∃t,(zW all n).2=all++t:=by
 unfold zW;split
 ·exact⟨[],by simp⟩
 ·exact⟨[n],rfl⟩
theorem zDB(all:List zB)(i:Int)(s k:List Int):∃t,(zb all i s k).2=all++t:=by
 unfold zb;split
 ·exact⟨[],by simp⟩
 ·exact zDH _ _
theorem zDC{g g' g'':List zB}(h:∃t,g'=g++t)(k:∃t,g''=g'++t):∃t,g''=g++t:=by
 obtain⟨t,rfl⟩:=h;obtain⟨u,rfl⟩:=k;exact⟨t++u,by simp⟩
theorem zG5{f:Int->ASt->Int × ASt}(h:∀v st,∃t,(f v st).2.all =st.all++t):∀(l:List Int)(st:ASt),∃t,(zH f l st).2.all =st.all++t
 |[],st=>⟨[],by simp[zH]⟩
 |v::l,st=>zDC (h v st) (zG5 h l _)
theorem zGF(ds:List zC)(a b:List zB):∀(k:Nat)(x y:Int)(st:ASt),∃t,(zAR ds a b k x y st).2.all =st.all++t
 |0,_,_,st=>⟨[],by simp[zAR]⟩
 |k+1,x,y,st=>by
  unfold zAR;split
  ·exact⟨[],by simp⟩
  ·split
   ·exact zDH _ _
   ·exact zDC (zG5 (λv st=>zGF ds a b k _ _ st) _ st) (zDB _ _ _ _)
theorem zN2{g g':List zB}(h:∃t,g'=g++t):g.length≤g'.length:=by obtain⟨t,rfl⟩:=h;simp
theorem zDQ:∀{α:Type}[DecidableEq α](l m:List α),l.Nodup->(∀x∈l,x∈m)->l.length≤m.length
 | _,_,[],_,_,_=>Nat.zero_le _
 | _,_,a::l,m,hn,h=>by
  have hn':=List.nodup_cons.1 hn
  have h1:=zDQ l (m.erase a) hn'.2 λx hx=>by
   (have hne:x≠a:=λe=>hn'.1 (e▸hx));exact(List.mem_erase_of_ne hne).2 (h x (List.mem_cons_of_mem _ hx))
  have h2:=List.length_erase_of_mem (h a (by simp));have h3:=List.length_pos_of_mem (h a (by simp));simp only[List.length_cons];omega
section both
variable {ds:List zC} {a b:List zB}
def Closed(ds:List zC)(a b:List zB)(P:List (Int × Int)):Prop:=
 ∀p∈P,Rng a p.1∧Rng b p.2∧∀v,(zG a p.1 (min (zF ds (nAt a p.1)) (zF ds (nAt b p.2))) v,zG b p.2 (min (zF ds (nAt a p.1)) (zF ds (nAt b p.2))) v)∈P
structure For (ds:List zC) (a b all:List zB) (x y r:Int):Prop where
 rng:Rng all r
 says:∀c,Fit ds c->S ds all r c=(S ds a x c&&S ds b y c)
 low:(nAt all r).kids ≠[]->min (zF ds (nAt a x)) (zF ds (nAt b y))≤(nAt all r).fact
theorem For.app{all all':List zB}{x y r:Int}(h:For ds a b all x y r)(hg:Good ds all)(hg':Good ds all')(hp:∃t,all'=all++t):For ds a b all' x y r:=by
 obtain⟨t,rfl⟩:=hp;exact⟨h.rng.app t,λc hc=>by rw[zIt hg hg' h.rng];exact h.says c hc,by rw[zE7 h.rng];exact h.low⟩
structure zEw (ds:List zC) (a b:List zB) (P:List (Int × Int)) (st:ASt):Prop where
 good:Good ds st.all
 done:∀p∈st.done,For ds a b st.all p.1.1 p.1.2 p.2
 from_:∀j,Rng st.all j->∃p∈P,∀c,Fit ds c->S ds st.all j c=(S ds a p.1 c&&S ds b p.2 c)
theorem zEw.length_le{P:List (Int × Int)}{st:ASt}(hl:zC5 ds)(h:zEw ds a b P st):st.all.length≤P.length:=by
 have hc:∀j:Nat,∃p:Int × Int,j<st.all.length->p∈P∧∀c,Fit ds c->S ds st.all j c=(S ds a p.1 c&&S ds b p.2 c):=λj=>by
  by_cases hj:j<st.all.length
  ·obtain⟨p,hp,e⟩:=h.from_ j ⟨by omega,by omega⟩;exact⟨p,λ_=>⟨hp,e⟩⟩
  ·exact⟨(0,0),λh=>absurd h hj⟩
 obtain⟨f,hf⟩:=Classical.axiomOfChoice hc
 have:=zDQ ((List.range st.all.length).map f) P (by
  show List.Pairwise (· ≠ ·) _;rw[List.pairwise_map];refine List.Pairwise.imp_of_mem (R:=(· ≠ ·)) (λ{i j} hi hj hne e=>hne ?_) List.nodup_range;rw[List.mem_range]at hi hj
  have:=h.good.uniq hl (a:=(i:Int)) (b:=(j:Int)) ⟨by omega,by omega⟩ ⟨by omega,by omega⟩ λc hc=>by
   rw[(hf i hi).2 c hc,(hf j hj).2 c hc,e]
  omega) (λp hp=>by
  obtain⟨j,hj,rfl⟩:=List.mem_map.1 hp
  exact(hf j (List.mem_range.1 hj)).1)
 simpa using this
theorem zBg(hg:Good ds a){x i v:Int}(hx:Rng a x)(hi:i≤zF ds (nAt a x))(hid:i<ds.length):Rng a (zG a x i v)∧i<zF ds (nAt a (zG a x i v)):=by
 unfold zG;by_cases h:(nAt a x).kids ≠[]∧(nAt a x).fact =i
 ·rw[if_pos h];have I:=hg.inner hx h.1;have hm:=I.kid_rng v;refine⟨I.rng _ hm,?_⟩;unfold zF;split
  ·exact hid
  ·rename_i hk;have:=I.up _ hm hk;rw[<-h.2];exact this
 ·rw[if_neg h];refine⟨hx,?_⟩;unfold zF at hi⊢;split
  ·exact hid
  ·rename_i hk;rw[if_neg hk]at hi;(have:(nAt a x).fact ≠i:=λe=>h ⟨hk,e⟩);omega
theorem zKV(hg:Good ds a){x i:Int}{s:Int}(hx:Rng a x)(c:List Int)(_h0:0≤i)
  (hs:(nAt a x).kids ≠[]->(nAt a x).fact =i->nx (nAt a x).cuts s=nx (nAt a x).cuts (c.getD i.toNat 0)):S ds a (zG a x i s) c=S ds a x c:=by
 unfold zG;by_cases h:(nAt a x).kids ≠[]∧(nAt a x).fact =i
 ·rw[if_pos h,hg.S_inner hx h.1,h.2,hs h.1 h.2]
 ·rw[if_neg h]
theorem zC7(hg:Good ds a){x:Int}(hx:Rng a x):0≤zF ds (nAt a x)∧zF ds (nAt a x)≤ds.length:=by
 unfold zF;split
 ·omega
 ·rename_i hk;have I:=hg.inner hx hk;have:=I.f0;have:=I.f1;omega
theorem zA6{σ:Type}{f:Int->σ->Int × σ}:∀(l:List Int)(st:σ),(zH f l st).1.length =l.length
 |[],_=>rfl
 |v::l,st=>by simp[zH,zA6 l]
theorem zG6(hl:zC5 ds)(ha:Good ds a)(hb:Good ds b){P:List (Int × Int)}(hP:Closed ds a b P):∀(k:Nat)(x y:Int)(st:ASt),(x,y)∈P->
  ds.length-(min (zF ds (nAt a x)) (zF ds (nAt b y))).toNat <k->zEw ds a b P st->(P.length≤4000∨(zAR ds a b k x y st).2.all.length ≤4000)->
  zEw ds a b P (zAR ds a b k x y st).2∧For ds a b (zAR ds a b k x y st).2.all x y (zAR ds a b k x y st).1
 |0,_,_,_,_,h,_,_=>by omega
 |k+1,x,y,st,hxy,hk,hst,hsz=>by
  have hpre:=zGF ds a b (k+1) x y st;have hle:=zN2 hpre;obtain⟨hx,hy,hcl⟩:=hP _ hxy;simp only at hx hy hcl;have ax:=zC7 ha hx;have ay:=zC7 hb hy
  have hns:st.all.length≤4000:=by
   rcases hsz with h|h
   ·exact Nat.le_trans (hst.length_le hl) h
   ·exact Nat.le_trans hle h
  unfold zAR at hsz⊢
  cases hkv:kvI st.done (x,y)with
  |some r=>
   simp only[hkv]at hsz⊢;exact⟨hst,hst.done _ (zHJ hkv)⟩
  |none=>
   simp only[hkv]at hsz⊢;by_cases hend:min (zF ds (nAt a x)) (zF ds (nAt b y))=ds.length∨4000<st.all.length
   ·simp only[if_pos hend]at hsz⊢
    have hend':min (zF ds (nAt a x)) (zF ds (nAt b y))=ds.length:=by
     rcases hend with h|h
     ·exact h
     ·omega
    have kx:(nAt a x).kids =[]:=by
     by_cases h:(nAt a x).kids =[]
     ·exact h
     ·have I:=ha.inner hx h;have:=I.f1;unfold zF at hend';rw[if_neg h]at hend';omega
    have ky:(nAt b y).kids =[]:=by
     by_cases h:(nAt b y).kids =[]
     ·exact h
     ·have I:=hb.inner hy h;have:=I.f1;unfold zF at hend';rw[if_neg h]at hend';omega
    obtain⟨M,hat⟩:=zFX hst.good (n:=⟨(nAt a x).leaf &&(nAt b y).leaf,0,[],[]⟩) (Or.inl ⟨rfl,rfl,rfl⟩);have hnew:=zDH st.all ⟨(nAt a x).leaf &&(nAt b y).leaf,0,[],[]⟩
    have hlen:∀j,Rng (zW st.all ⟨(nAt a x).leaf &&(nAt b y).leaf,0,[],[]⟩).2 j->Rng st.all j∨j=(zW st.all ⟨(nAt a x).leaf &&(nAt b y).leaf,0,[],[]⟩).1:=by
     intro j hj;unfold zW at hj⊢;split at hj
     ·exact Or.inl hj
     ·rename_i hm;rw[if_neg hm];have h0:=hj.1;have h1:=hj.2;simp at h1;by_cases e:j=(st.all.length:Nat)
      ·exact Or.inr e
      ·exact Or.inl ⟨h0,by omega⟩
    generalize zW st.all ⟨(nAt a x).leaf &&(nAt b y).leaf,0,[],[]⟩=r at*;have hF:For ds a b r.2 x y r.1:=⟨M.rng,λc _=>by rw[M.good.S_leaf (by rw[hat]),hat,ha.S_leaf kx,hb.S_leaf ky],λh=>absurd (by rw[hat]) h⟩;refine⟨⟨M.good,λp hp=>(hst.done p hp).app hst.good M.good M.pre,λj hj=> ?_⟩,hF⟩;rcases hlen j hj with h|h
    ·obtain⟨p,hp,e⟩:=hst.from_ j h;exact⟨p,hp,λc hc=>by rw[M.S_old hst.good h];exact e c hc⟩
    ·subst h;exact⟨_,hxy,hF.says⟩
   ·simp only[if_neg hend]at hsz⊢;have hi:min (zF ds (nAt a x)) (zF ds (nAt b y))<ds.length:=by omega
    have hmix:∃rest,zi ds (nAt a x) (nAt b y)=(fAt ds (min (zF ds (nAt a x)) (zF ds (nAt b y)))).lo ::rest∧zk (fAt ds (min (zF ds (nAt a x)) (zF ds (nAt b y)))).lo (fAt ds (min (zF ds (nAt a x)) (zF ds (nAt b y)))).hi rest∧
      ((nAt a x).kids ≠[]->(nAt a x).fact =min (zF ds (nAt a x)) (zF ds (nAt b y))->∀v∈(nAt a x).cuts,v∈rest)∧((nAt b y).kids ≠[]->(nAt b y).fact =min (zF ds (nAt a x)) (zF ds (nAt b y))->∀v∈(nAt b y).cuts,v∈rest):=by
     refine⟨_,rfl,zE1 λv hv=> ?_,λh1 h2 v hv=> ?_,λh1 h2 v hv=> ?_⟩
     ·rcases List.mem_append.1 hv with hv|hv
      ·split at hv
       ·rename_i e;rcases ha.proper _ (zDz hx)with h|h
        ·rw[h.2.2]at hv;simp at hv
        ·(have:zF ds (nAt a x)=(nAt a x).fact :=by unfold zF;rw[if_neg h.ne]);rw[<-e,this];exact zA3 h.asc v hv
       ·simp at hv
      ·split at hv
       ·rename_i e;rcases hb.proper _ (zDz hy)with h|h
        ·rw[h.2.2]at hv;simp at hv
        ·(have:zF ds (nAt b y)=(nAt b y).fact :=by unfold zF;rw[if_neg h.ne]);rw[<-e,this];exact zA3 h.asc v hv
       ·simp at hv
     ·rw[zCb,List.mem_append];left;rw[if_pos (by rw[<-h2];unfold zF;rw[if_neg h1])];exact hv
     ·rw[zCb,List.mem_append];right;rw[if_pos (by rw[<-h2];unfold zF;rw[if_neg h1])];exact hv
    obtain⟨rest,hmx,hasc,hca,hcb⟩:=hmix;(have hi0:0≤min (zF ds (nAt a x)) (zF ds (nAt b y)):=by omega);(have hia:min (zF ds (nAt a x)) (zF ds (nAt b y))≤zF ds (nAt a x):=by omega);(have hib:min (zF ds (nAt a x)) (zF ds (nAt b y))≤zF ds (nAt b y):=by omega);generalize hmi:min (zF ds (nAt a x)) (zF ds (nAt b y))=i at*
    have hkid:∀(l:List Int)(st:ASt),zEw ds a b P st->(P.length≤4000∨(zH (λv st=>zAR ds a b k (zG a x i v) (zG b y i v) st) l st).2.all.length ≤4000)->
      zEw ds a b P (zH (λv st=>zAR ds a b k (zG a x i v) (zG b y i v) st) l st).2∧
      ∀j,j<l.length->For ds a b (zH (λv st=>zAR ds a b k (zG a x i v) (zG b y i v) st) l st).2.all (zG a x i (l.getD j 0)) (zG b y i (l.getD j 0)) ((zH (λv st=>zAR ds a b k (zG a x i v) (zG b y i v) st) l st).1.getD j 0):=by
     intro l
     induction l with
     |nil=>intro st hst _;exact⟨hst,λj hj=>absurd hj (by simp)⟩
     |cons v l ih=>
      intro st hst hsz;have sx:=zBg ha (v:=v) hx hia hi;have sy:=zBg hb (v:=v) hy hib hi;have hp1:=zG5 (f:=λv st=>zAR ds a b k (zG a x i v) (zG b y i v) st) (λv st=>zGF ds a b k _ _ st) l (zAR ds a b k (zG a x i v) (zG b y i v) st).2;have hle:=zN2 hp1;obtain⟨A1,F1⟩:=zG6 hl ha hb hP k (zG a x i v) (zG b y i v) st (hcl v) (by omega) hst (hsz.imp id λh=>Nat.le_trans hle h);obtain⟨A2,F2⟩:=ih _ A1 hsz;refine⟨A2,λj hj=> ?_⟩
      cases j with
      |zero=>exact F1.app A1.good A2.good hp1
      |succ j=>exact F2 j (by simpa using hj)
    have hp2:=zDB (zH (λv st=>zAR ds a b k (zG a x i v) (zG b y i v) st) (zi ds (nAt a x) (nAt b y)) st).2.all i (zi ds (nAt a x) (nAt b y)) (zH (λv st=>zAR ds a b k (zG a x i v) (zG b y i v) st) (zi ds (nAt a x) (nAt b y)) st).1;obtain⟨A1,F1⟩:=hkid (zi ds (nAt a x) (nAt b y)) st hst (hsz.imp id λh=>Nat.le_trans (zN2 hp2) h);have hlk:=zA6 (f:=λv st=>zAR ds a b k (zG a x i v) (zG b y i v) st) (zi ds (nAt a x) (nAt b y)) st;rw[hmx]at A1 F1 hlk⊢;generalize zH (λv st=>zAR ds a b k (zG a x i v) (zG b y i v) st) ((fAt ds i).lo ::rest) st=r at*;obtain⟨kids,st'⟩:=r;simp only at A1 F1 hlk⊢
    cases kids with
    |nil=>simp at hlk
    |cons k0 ks=>
     (have hlk':rest.length=ks.length:=by simpa using hlk.symm);obtain⟨n,hn⟩:=Int.eq_ofNat_of_zero_le hi0;subst hn;have hn:n<ds.length:=by omega
     have hF1:∀q∈k0::ks,∃j,j<((fAt ds (n:Int)).lo ::rest).length ∧q=(k0::ks).getD j 0:=λq hq=>by
      obtain⟨j,hj,rfl⟩:=List.getElem_of_mem hq;exact⟨j,by simp only[List.length_cons]at hj⊢;omega,by rw[List.getD_eq_getElem?_getD,List.getElem?_eq_getElem hj];rfl⟩
     have hfa:fAt ds (n:Int)=ds.getD n zAA:=by unfold fAt;rw[Int.toNat_natCast]
     obtain⟨M,hS,hlow⟩:=zFz A1.good hn hlk' (by rw[<-hfa];exact hasc) (λq hq=>by obtain⟨j,hj,rfl⟩:=hF1 q hq;exact(F1 j hj).rng) (λq hq hqk=>by
      obtain⟨j,hj,rfl⟩:=hF1 q hq;have:=(F1 j hj).low hqk;have sx:=zBg ha (v:=((fAt ds (n:Int)).lo ::rest).getD j 0) hx hia hi;have sy:=zBg hb (v:=((fAt ds (n:Int)).lo ::rest).getD j 0) hy hib hi
      omega)
     rw[hfa]
     have hlen:∀j,Rng (zb st'.all n ((ds.getD n zAA).lo ::rest) (k0::ks)).2 j->Rng st'.all j∨j=(zb st'.all n ((ds.getD n zAA).lo ::rest) (k0::ks)).1:=by
      intro j hj;unfold zb zW at hj⊢;split at hj
      ·exact Or.inl hj
      ·rename_i hm;rw[if_neg hm];split at hj
       ·exact Or.inl hj
       ·rename_i hm2;rw[if_neg hm2];have h0:=hj.1;have h1:=hj.2;simp at h1;by_cases e:j=(st'.all.length:Nat)
        ·exact Or.inr e
        ·exact Or.inl ⟨h0,by omega⟩
     generalize zb st'.all n ((ds.getD n zAA).lo ::rest) (k0::ks)=o at*
     have hF:For ds a b o.2 x y o.1:=by
      refine⟨M.rng,λc hc=> ?_,λh=> ?_⟩
      ·rw[hS c];have hle:=zCs rest (c.getD n 0);rw[(F1 (nx rest (c.getD n 0)) (by simp only[List.length_cons];omega)).says c hc];have hfit:=hc.2 n hn
       have e:((fAt ds (n:Int)).lo ::rest).getD (nx rest (c.getD n 0)) 0=zn (fAt ds (n:Int)).lo rest (nx rest (c.getD n 0)):=by
        unfold zn;split
        ·rename_i h0;rw[h0];rfl
        ·rename_i h0;obtain⟨q,hq⟩:∃q,nx rest (c.getD n 0)=q+1:=⟨nx rest (c.getD n 0)-1,by omega⟩;rw[hq];simp
       have s1:=zCj (v:=c.getD n 0) hasc (by rw[hfa];exact hfit.1);(have s2:=λx hx=>zCt (v:=c.getD n 0) (x:=x) hasc hx);rw[e];rw[zKV ha hx c (by omega) (λh1 h2=>zJM s1 λz hz=>s2 z (hca h1 h2 z hz)),zKV hb hy c (by omega) (λh1 h2=>zJM s1 λz hz=>s2 z (hcb h1 h2 z hz))]
      ·have:=hlow h;omega
     refine⟨⟨M.good,λp hp=> ?_,λj hj=> ?_⟩,hF⟩
     ·rcases zDp hp with hp|hp
      ·exact(A1.done p hp).app A1.good M.good M.pre
      ·subst hp;exact hF
     ·rcases hlen j hj with h|h
      ·obtain⟨p,hp,e⟩:=A1.from_ j h;exact⟨p,hp,λc hc=>by rw[M.S_old A1.good h];exact e c hc⟩
      ·subst h;exact⟨_,hxy,hF.says⟩
end both
def zCu(lo hi:Int):List Int->Bool
 |[]=>true
 |c::r=>decide (lo<c)&&decide (c≤hi)&&zCu c hi r
theorem zN3:∀{l:List Int}{lo hi:Int},zCu lo hi l=true↔zk lo hi l
 |[],_,_=>by simp[zCu,zk]
 |c::r,lo,hi=>by simp only[zCu,zk,Bool.and_eq_true,decide_eq_true_eq,zN3,and_assoc]
def zDq(g:List zB)(f:Int):List Int->Bool
 |[]=>true
 |k::r=>(decide (0≤k)&&decide (k<g.length)&&(decide ((nAt g k).kids =[])||decide (f<(nAt g k).fact)))&&(match r with|[]=>true|k'::_=>decide (k≠k'))&&zDq g f r
def zc(ds:List zC)(g:List zB)(n:zB):Bool:=
 if n.kids=[]then decide (n.fact=0)&&decide (n.cuts=[])
 else !n.leaf&&decide (0≤n.fact)&&decide (n.fact<ds.length)&&decide (n.cuts≠[])&&decide (n.kids.length=n.cuts.length+1)&&zCu (fAt ds n.fact).lo (fAt ds n.fact).hi n.cuts&&zDq g n.fact n.kids
theorem zLy{g:List zB}{f:Int}:∀{l:List Int},zDq g f l=true↔(∀k∈l,Rng g k)∧(∀k∈l,(nAt g k).kids ≠[]->f<(nAt g k).fact)∧∀j,j+1<l.length->l.getD j 0≠l.getD (j+1) 0
 |[]=>by simp[zDq]
 |k::r=>by
  have ih:=zLy (g:=g) (f:=f) (l:=r);unfold zDq;simp only[Bool.and_eq_true,decide_eq_true_eq,Bool.or_eq_true,ih];constructor
  ·rintro⟨⟨⟨⟨h0,h1⟩,h2⟩,h3⟩,h4,h5,h6⟩;refine⟨λx hx=> ?_,λx hx hne=> ?_,λj hj=> ?_⟩
   ·rcases List.mem_cons.1 hx with rfl|hx
    ·exact⟨h0,h1⟩
    ·exact h4 x hx
   ·rcases List.mem_cons.1 hx with rfl|hx
    ·rcases h2 with h2|h2
     ·exact absurd h2 hne
     ·exact h2
    ·exact h5 x hx hne
   ·cases j with
    |zero=>
     cases r with
     |nil=>simp at hj
     |cons k' r=>simpa using h3
    |succ j=>simpa using h6 j (by simpa using hj)
  ·rintro⟨h1,h2,h3⟩;refine⟨⟨⟨⟨(h1 k (by simp)).1,(h1 k (by simp)).2⟩,?_⟩,?_⟩,λx hx=>h1 x (by simp[hx]),λx hx=>h2 x (by simp[hx]),λj hj=> ?_⟩
   ·by_cases e:(nAt g k).kids =[]
    ·exact Or.inl e
    ·exact Or.inr (h2 k (by simp) e)
   ·cases r with
    |nil=>rfl
    |cons k' r=>have:=h3 0 (by simp);simpa using this
   ·have:=h3 (j+1) (by simpa using hj);simpa using this
theorem zFL{ds:List zC}{g:List zB}{n:zB}:zc ds g n=true↔zFW ds g n:=by
 unfold zc;by_cases h:n.kids=[]
 ·rw[if_pos h];simp only[Bool.and_eq_true,decide_eq_true_eq]
  exact⟨λe=>Or.inl ⟨h,e.1,e.2⟩,λe=>by
   rcases e with e|e
   ·exact e.2
   ·exact absurd h e.ne⟩
 ·rw[if_neg h];simp only[Bool.and_eq_true,decide_eq_true_eq,Bool.not_eq_true',zN3,zLy];constructor
  ·rintro⟨⟨⟨⟨⟨⟨h1,h2⟩,h3⟩,h4⟩,h5⟩,h6⟩,h7,h8,h9⟩;exact Or.inr ⟨h,h1,h2,h3,h4,h5,h6,h7,h8,h9⟩
  ·rintro(e|e)
   ·exact absurd e.1 h
   ·exact⟨⟨⟨⟨⟨⟨e.leaf,e.f0⟩,e.f1⟩,e.cuts⟩,e.len⟩,e.asc⟩,e.rng,e.up,e.diff⟩
def zAB(ds:List zC)(g:List zB):Bool:=
 zR ds&&decide (g≠[])&&decide (g.length≤4000)&&g.all (zc ds g)&&decide g.Nodup&&decide (zAQ ds g 0=g)
structure zAp (ds:List zC) (g:List zB):Prop where
 dom:zR ds=true
 ne:g≠[]
 len:g.length≤4000
 good:Good ds g
 canon:zAQ ds g 0=g
theorem zAk{ds:List zC}{g:List zB}:zAB ds g=true↔zAp ds g:=by
 unfold zAB;simp only[Bool.and_eq_true,decide_eq_true_eq,List.all_eq_true,zFL];constructor
 ·rintro⟨⟨⟨⟨⟨h1,h2⟩,h3⟩,h4⟩,h5⟩,h6⟩;exact⟨h1,h2,h3,⟨h4,h5⟩,h6⟩
 ·rintro⟨h1,h2,h3,⟨h4,h5⟩,h6⟩;exact⟨⟨⟨⟨⟨h1,h2⟩,h3⟩,h4⟩,h5⟩,h6⟩
theorem zBn{ds:List zC}(h:zR ds=true):zC5 ds:=λj hj=>by
 unfold zR at h;simp only[Bool.and_eq_true,List.all_eq_true]at h;have:=h.1.1 (ds.getD j zAA) (by rw[List.getD_eq_getElem?_getD,List.getElem?_eq_getElem hj];exact List.getElem_mem hj);unfold zAv at this;simp only[Bool.and_eq_true,Bool.or_eq_true,beq_iff_eq,decide_eq_true_eq]at this;omega
theorem zAp.rng{ds:List zC}{g:List zB}(h:zAp ds g):Rng g 0:=⟨Int.le_refl _,by have:=List.length_pos_iff.2 h.ne;omega⟩
theorem zAp.eq{ds:List zC}{a b:List zB}(ha:zAp ds a)(hb:zAp ds b)(h:EqS ds a b 0 0):a=b:=by
 rw[<-ha.canon,<-hb.canon];exact zHf (zBn ha.dom) ha.good hb.good ha.rng hb.rng h
theorem zJV{ds:List zC}{g:List zB}{i:Int}(hd:zR ds=true)(h:Good ds g)(hi:Rng g i)(hlen:(zAQ ds g i).length ≤4000):zAp ds (zAQ ds g i):=
 ⟨hd,by intro e;have:=(zMk h hi).2;rw[e]at this;simp at this,hlen,zLF h hi,zP4 (zBn hd) h hi⟩
def nxL(n:zB)(v:Int):Int:=if nx n.cuts v<n.cuts.length then(nx n.cuts v:Nat)else(n.kids.length:Int)-1
theorem zD5.nxL{ds:List zC}{g:List zB}{n:zB}(h:zD5 ds g n)(v:Int):nxL n v=(nx n.cuts v:Nat):=by
 unfold Go.Proofs.YtonmdbdopchkaaaGreatDoor.nxL;have:=zCs n.cuts v;have:=h.len;split<;>omega
def zCT(g:List zB)(c:List Int):Nat->Int->Bool
 |0,_=>false
 |k+1,at_=>
  if at_<0∨(g.length:Int)≤at_ then false
  else if(nAt g at_).kids =[]then(nAt g at_).leaf
  else if(nAt g at_).fact <0∨(c.length:Int)≤(nAt g at_).fact then false
  else if((nAt g at_).kids.length :Int)≤nxL (nAt g at_) (c.getD (nAt g at_).fact.toNat 0)then false
  else zCT g c k ((nAt g at_).kids.getD (nxL (nAt g at_) (c.getD (nAt g at_).fact.toNat 0)).toNat 0)
section holds
variable {ds:List zC} {g:List zB}
def live(g:List zB)(k:Int):Bool:=decide ((nAt g k).kids ≠[])||(nAt g k).leaf
def zAu(g:List zB):Nat->Int->List Int->Int × List Int
 |0,i,c=>(i,c)
 |k+1,i,c=>
  if(nAt g i).kids =[]then(i,c)
  else zAu g k ((nAt g i).kids.getD ((nAt g i).kids.findIdx (live g)) 0)
   (if 0<(nAt g i).kids.findIdx (live g)then c.set (nAt g i).fact.toNat ((nAt g i).cuts.getD ((nAt g i).kids.findIdx (live g)-1) 0)else c)
def zDR(ds:List zC)(g:List zB):Option (List Int):=
 if zAB ds g=true then(if(nAt g (zAu g (ds.length+1) 0 (zBA ds)).1).leaf =true then some (zAu g (ds.length+1) 0 (zBA ds)).2 else none)else none
theorem Good.some_live(_hl:zC5 ds)(h:Good ds g){i:Int}(hi:Rng g i)(hk:(nAt g i).kids ≠[]):(nAt g i).kids.findIdx (live g)<(nAt g i).kids.length :=by
 have I:=h.inner hi hk;refine List.findIdx_lt_length_of_exists ?_;have hlen:=I.len;have hc1:1≤(nAt g i).cuts.length :=by have:=I.cuts;cases hc:(nAt g i).cuts with|nil=>exact absurd hc this|cons=>simp
 have m0:(nAt g i).kids.getD 0 0∈(nAt g i).kids :=zAf (by omega);have m1:(nAt g i).kids.getD 1 0∈(nAt g i).kids :=zAf (by omega);by_cases l0:live g ((nAt g i).kids.getD 0 0)=true
 ·exact⟨_,m0,l0⟩
 ·by_cases l1:live g ((nAt g i).kids.getD 1 0)=true
  ·exact⟨_,m1,l1⟩
  ·exfalso;have hd:=I.diff 0 (by omega)
   have dead:∀k,Rng g k->¬live g k=true->nAt g k=zBO:=λk hk hl=>by
    unfold live at hl;simp only[Bool.or_eq_true,decide_eq_true_eq,not_or,Decidable.not_not]at hl;rcases h.proper _ (zDz hk)with e|e
    ·exact zB.ext' (by rw[show zBO.leaf=false from rfl];simpa using hl.2) e.2.1 e.2.2 e.1
    ·exact absurd hl.1 e.ne
   exact hd (zKM h.nodup (I.rng _ m0) (I.rng _ m1) (by rw[dead _ (I.rng _ m0) l0,dead _ (I.rng _ m1) l1]))
def zT9(a b:List Int):Prop:=∃j,j<a.length∧j<b.length∧(∀i,i<j->a.getD i 0=b.getD i 0)∧a.getD j 0<b.getD j 0
theorem zRS(h:Good ds g){i:Int}(hd:live g i=false)(c:List Int):S ds g i c=false:=by
 unfold live at hd;simp only[Bool.or_eq_false_iff,decide_eq_false_iff_not,Decidable.not_not]at hd;rw[h.S_leaf hd.1];exact hd.2
theorem zHA(hl:zC5 ds)(h:Good ds g):∀(k:Nat)(i:Int)(c:List Int)(lo:Nat),Rng g i->zBr ds g i<k->live g i=true->Fit ds c->((nAt g i).kids ≠[]->(lo:Int)≤(nAt g i).fact)->
  (∀j,lo≤j->j<ds.length->c.getD j 0=(ds.getD j zAA).lo)->
  (nAt g (zAu g k i c).1).leaf =true∧Fit ds (zAu g k i c).2∧S ds g i (zAu g k i c).2=true∧(∀j,j<lo->(zAu g k i c).2.getD j 0=c.getD j 0)∧
  ((nAt g i).kids ≠[]->∀j:Nat,(j:Int)<(nAt g i).fact ->(zAu g k i c).2.getD j 0=c.getD j 0)∧
  ∀c',Fit ds c'->(∀j,j<lo->c'.getD j 0=c.getD j 0)->S ds g i c'=true->¬zT9 c' (zAu g k i c).2
 |0,_,_,_,_,hr,_,_,_,_=>by omega
 |k+1,i,c,lo,hi,hr,hlv,hc,hlo,hcl=>by
  unfold zAu;by_cases hk:(nAt g i).kids =[]
  ·rw[if_pos hk];(have hlf:(nAt g i).leaf =true:=by unfold live at hlv;simpa[hk]using hlv);refine⟨hlf,hc,by rw[h.S_leaf hk];exact hlf,λj _=>rfl,λj hj=>absurd hk j,λc' hc' hag hs ⟨j,h1,h2,h3,h4⟩=> ?_⟩;rcases Nat.lt_or_ge j lo with hj|hj
   ·have:=hag j hj;simp only at h4;omega
   ·(have hjd:j<ds.length:=by rw[hc'.1]at h1;exact h1);have:=(hc'.2 j hjd).1;have:=hcl j hj hjd;simp only at h4;omega
  ·rw[if_neg hk];have I:=h.inner hi hk;have hlo':=hlo hk;have f0:=I.f0;have f1:=I.f1;have hfi:=h.some_live hl hi hk;(have hflt:(nAt g i).fact.toNat <ds.length:=by omega);have hkm:=zAf hfi
   have hkl:live g ((nAt g i).kids.getD ((nAt g i).kids.findIdx (live g)) 0)=true:=by
    rw[List.getD_eq_getElem?_getD,List.getElem?_eq_getElem hfi];exact List.findIdx_getElem
   have hbefore:∀j,j<(nAt g i).kids.findIdx (live g)->live g ((nAt g i).kids.getD j 0)=false:=λj hj=>by
    (have hj':j<(nAt g i).kids.length :=by omega);rw[List.getD_eq_getElem?_getD,List.getElem?_eq_getElem hj'];have:=List.not_of_lt_findIdx hj;simpa using this
   have hlen:=I.len;generalize hx:(nAt g i).kids.findIdx (live g)=x at*;have hrk:=h.rank_kid hi hkm
   have hset:(if 0<x then c.set (nAt g i).fact.toNat ((nAt g i).cuts.getD (x-1) 0)else c)=c.set (nAt g i).fact.toNat (zn (fAt ds (nAt g i).fact).lo (nAt g i).cuts x):=by
    unfold zn;by_cases h0:x=0
    ·rw[if_neg (by omega),if_pos h0];have e:=hcl (nAt g i).fact.toNat (by omega) hflt;(have hlt:(nAt g i).fact.toNat <c.length:=by rw[hc.1];exact hflt);apply zFc (by simp);intro j hj;rw[zCq];split
     ·rename_i hh;rw[<-hh.1,e];rfl
     ·rfl
    ·rw[if_pos (by omega),if_neg h0]
   rw[hset];have hst:=h.start_fit hl hi hk (j:=x) (by omega);have hc1:=hc.set_ (j:=(nAt g i).fact.toNat) hst.1 hst.2;have hup:=I.up _ hkm;generalize hq:zn (fAt ds (nAt g i).fact).lo (nAt g i).cuts x=q at*;(have hnq:nx (nAt g i).cuts q=x:=by rw[<-hq];exact zFH I.asc (by omega));have hclen:(nAt g i).fact.toNat <c.length:=by rw[hc.1];exact hflt
   obtain⟨a1,a2,a3,a4,a5,a6⟩:=zHA hl h k ((nAt g i).kids.getD x 0) (c.set (nAt g i).fact.toNat q) ((nAt g i).fact.toNat +1) hrk.1 (by omega) hkl hc1 (λhkk=>by have:=hup hkk;omega) (λj hj hjd=>by
    rw[zCq,if_neg (by omega)]
    exact hcl j (by omega) hjd)
   generalize zAu g k ((nAt g i).kids.getD x 0) (c.set (nAt g i).fact.toNat q)=r at*
   have hpf:r.2.getD (nAt g i).fact.toNat 0=q:=by
    rw[a4 _ (by omega),zCq,if_pos ⟨rfl,hclen⟩]
   have hold:∀j,j<(nAt g i).fact.toNat ->r.2.getD j 0=c.getD j 0:=λj hj=>by
    rw[a4 j (by omega),zCq,if_neg (by omega)]
   refine⟨a1,a2,?_,λj hj=>hold j (by omega),λ_ j hj=>hold j (by omega),λc' hc' hag hs ⟨j,h1,h2,h3,h4⟩=> ?_⟩
   ·rw[h.S_inner hi hk,hpf,hnq];exact a3
   ·(have hjd:j<ds.length:=by rw[hc'.1]at h1;exact h1);rcases Nat.lt_trichotomy j (nAt g i).fact.toNat with hj|hj|hj
    ·have e:=hold j hj;rcases Nat.lt_or_ge j lo with hjl|hjl
     ·have:=hag j hjl;omega
     ·have:=(hc'.2 j hjd).1;have:=hcl j hjl hjd;omega
    ·subst hj;rw[hpf]at h4;rw[h.S_inner hi hk]at hs
     have hlt:nx (nAt g i).cuts (c'.getD (nAt g i).fact.toNat 0)<x:=by
      rcases Nat.lt_or_ge (nx (nAt g i).cuts (c'.getD (nAt g i).fact.toNat 0)) x with h'|h'
      ·exact h'
      ·exfalso
       have hx0:x≠0:=λe=>by
        have:=(hc'.2 _ hjd).1;rw[e]at hq;unfold zn fAt at hq;simp only[if_true]at hq;omega
       have hmem:q∈(nAt g i).cuts :=by
        rw[<-hq];unfold zn;rw[if_neg hx0];exact zAf (by omega)
       have s1:=zCt (v:=c'.getD (nAt g i).fact.toNat 0) I.asc hmem;have s2:=zCj (v:=c'.getD (nAt g i).fact.toNat 0) I.asc (hc'.2 _ hjd).1;have s3:zn (fAt ds (nAt g i).fact).lo (nAt g i).cuts (nx (nAt g i).cuts (c'.getD (nAt g i).fact.toNat 0))<q:=by omega
       have mono:∀(l:List Int)(lo hi:Int)(a b:Nat),zk lo hi l->a≤b->b≤l.length->zn lo l a≤zn lo l b:=by
        intro l
        induction l with
        |nil=>
         intro lo hi a b _ hab hb;simp at hb;(have:a=b:=by omega);subst this;exact Int.le_refl _
        |cons y l ih=>
         intro lo hi a b ha hab hb
         cases a with
         |zero=>
          unfold zn;rw[if_pos rfl];split
          ·exact Int.le_refl _
          ·exact Int.le_of_lt (zA3 ha _ (zAf (by omega))).1
         |succ a=>
          obtain⟨b,rfl⟩:∃b',b=b'+1:=⟨b-1,by omega⟩
          have e:∀j,zn lo (y::l) (j+1)=zn y l j:=λj=>by
           unfold zn
           cases j with
           |zero=>simp
           |succ j=>simp
          rw[e,e];exact ih y hi a b ha.2.2 (by omega) (by simpa using hb)
       have:=mono _ _ _ x _ I.asc h' (zCs _ _);omega
     rw[zRS h (hbefore _ hlt)]at hs;exact absurd hs (by simp)
    ·have ef:=h3 _ hj;rw[hpf]at ef;rw[h.S_inner hi hk,ef,hnq]at hs;refine a6 c' hc' (λj' hj'=> ?_) hs ⟨j,h1,h2,h3,h4⟩;rw[h3 j' (by omega),a4 j' hj']
theorem zJW{ds:List zC}(hd:zR ds=true)(j:Nat)(hj:j<ds.length):(zBA ds).getD j 0=(ds.getD j zAA).lo :=by
 rw[zCm hd];simp[List.getD_eq_getElem?_getD,List.getElem?_eq_getElem hj]
theorem zOw{p:List Int}(h:zDR ds g=some p):zAp ds g∧Fit ds p∧S ds g 0 p=true∧∀c,Fit ds c->S ds g 0 c=true->¬zT9 c p:=by
 unfold zDR at h;by_cases hv:zAB ds g=true
 ·rw[if_pos hv]at h;have V:=zAk.1 hv;have hl:=zBn V.dom;have hf:Fit ds (zBA ds):=by rw[zCm V.dom];exact hl.least
  by_cases hlv:live g 0=true
  ·obtain⟨a1,a2,a3,_,_,a6⟩:=zHA hl V.good (ds.length+1) 0 (zBA ds) 0 V.rng (by have:=zCG (ds:=ds) (g:=g) 0;omega) hlv hf (λhk=>(V.good.inner V.rng hk).f0) (λj _ hj=>zJW V.dom j hj);rw[if_pos a1]at h;injection h with h;subst h;exact⟨V,a2,a3,λc hc hs=>a6 c hc (λj hj=>absurd hj (by omega)) hs⟩
  ·exfalso;unfold live at hlv;simp only[Bool.or_eq_true,decide_eq_true_eq,not_or,Decidable.not_not]at hlv;unfold zAu at h;rw[if_pos hlv.1,if_neg hlv.2]at h;cases h
 ·rw[if_neg hv]at h;cases h
end holds
def zDI(n:zB):zB:=if n.kids=[]then⟨!n.leaf,n.fact,n.cuts,n.kids⟩else n
def zF4(g:List zB):List zB:=g.map zDI
section not_
variable {ds:List zC} {g:List zB}
end not_
theorem zN4{o:List Int}(hn:o.Nodup){j:Nat}(hj:j<o.length):za o (o.getD j 0)=(j:Nat):=by
 have e:o.getD j 0=o[j]:=by simp[List.getD_eq_getElem?_getD,hj]
 have hm:o[j]∈o:=List.getElem_mem hj;have hi:o.idxOf o[j]<o.length:=List.idxOf_lt_length_of_mem hm;have h1:o[o.idxOf o[j]]=o[j]:=List.getElem_idxOf hi;rw[e];unfold za;rw[if_pos hm];have:=(List.getElem_inj (xs:=o) (h₀:=hi) (h₁:=hj) hn).1 h1;rw[this]
theorem zRT{ds:List zC}{g:List zB}(hl:zC5 ds)(hg:Good ds g)(hr:Rng g 0):
  zAQ ds g 0=g↔(∀j,j<(zBH ds g 0).length ->(zBH ds g 0).getD j 0=(j:Nat))∧(zBH ds g 0).length =g.length:=by
 have O:=zCf hg hr;have hdef:zAQ ds g 0=(zBH ds g 0).map (zAS g (zBH ds g 0)):=rfl;have hS:=λ(x:Int)(hx:x∈zBH ds g 0) c=>zLn hg O (zBr ds g x) x hx (Nat.le_refl _) c;generalize zBH ds g 0=o at*;constructor
 ·intro h
  have hlen:o.length=g.length:=by
   have:=congrArg List.length (hdef.symm.trans h);simpa using this
  refine⟨λj hj=> ?_,hlen⟩;have hm:o.getD j 0∈o:=zAf hj;have e:=zN4 O.nodup hj;have hp:=zIs hm
  have h2:za o (o.getD j 0)=o.getD j 0:=hg.uniq hl ⟨hp.1,by omega⟩ (O.rng _ hm) λc _=>by
   have:=hS _ hm c;rw[<-hdef,h]at this;exact this
  rw[<-h2,e]
 ·rintro⟨h1,hlen⟩
  have hpl:∀k,Rng g k->za o k=k:=λk hk=>by
   obtain⟨n,rfl⟩:=Int.eq_ofNat_of_zero_le hk.1;(have hn:n<o.length:=by have:=hk.2;omega);have:=zN4 O.nodup hn;rwa[h1 n hn]at this
  rw[hdef];refine List.ext_getElem (by simpa using hlen) λj hj hj'=> ?_
  rw[List.getElem_map];have hjo:j<o.length:=by simpa using hj
  have e:o[j]=(j:Nat):=by
   have:=h1 j hjo;simpa[List.getD_eq_getElem?_getD,hjo]using this
  rw[e];unfold zAS;rw[zAI hj'];refine zB.ext' rfl rfl rfl ?_;show g[j].kids.map (za o)=g[j].kids;have hkk:∀k∈g[j].kids,za o k=k:=λk hk=>hpl k (O.rng k (O.kids o[j] (List.getElem_mem hjo) k (by rw[e,zAI hj'];exact hk)))
  rw[List.map_congr_left (g:=id) hkk,List.map_id]
theorem zG7{g:List zB}:g.Nodup↔∀i j,(hi:i<g.length)->(hj:j<i)->g[i]≠g[j]'(Nat.lt_trans hj hi):=by
 constructor
 ·intro h i j hi hj e;have:=(List.getElem_inj (xs:=g) (h₀:=hi) (h₁:=Nat.lt_trans hj hi) h).1 e;omega
 ·intro h;rw[List.nodup_iff_pairwise_ne]at*;rw[List.pairwise_iff_getElem];intro i j hi hj hij e;exact h j i hj hij e.symm
section pair
variable {P:Program} {k e:TypeId}
theorem zL4(hk:P.underlying k=some (.array 2 e))(he:P.underlying e=some (.int .i64)){i:TypeInfo}(hi:P.info? e=some i)(hc:P.cellsOf e=1)(w:World)(x y:Int × Int):
  (Op.equal k (zEF x) (zEF y)).run P w= .ok (decide (x=y)) w:=by
 have hp:P.plainKey e=true:=by simp[Program.plainKey,he]
 have h0:∀(d:Nat)(a b:Int),(Op.equalIn (d+1) e (.int .i64 a) (.int .i64 b)).run P w= .ok (a==b) w:=λd a b=>by
  simp[Op.equalIn,run_underlying he]
 have h1:∀(a b:Int),(Op.equalIn 9999 e (.int .i64 a) (.int .i64 b)).run P w= .ok (a==b) w:=h0 9998;have p0:∀(a b:Int),(part e #[.int .i64 a,.int .i64 b] 0).run P w= .ok (.int .i64 a) w:=λa b=>run_part_plain w hp rfl
 have p1:∀(a b:Int),(part e #[.int .i64 a,.int .i64 b] 1).run P w= .ok (.int .i64 b) w:=λa b=>run_part_plain w hp rfl
 unfold Op.equal zEF;rw[show Op.maxDepth=9999+1 from rfl,run_equalIn_array w 9999 _ _ hk hi,hc,show List.range 2=[0,1] from rfl];simp only[Op.eqItems,Sem.run_bind,Nat.zero_mul,Nat.one_mul,p0,Result.andThen_ok,h1];by_cases a:x.1=y.1<;>by_cases b:x.2=y.2<;>simp[a,b,Prod.ext_iff,p1,h1]
theorem zQH(hk:P.underlying k=some (.array 2 e))(he:P.underlying e=some (.int .i64)){i:TypeInfo}(hi:P.info? e=some i)(hc:P.cellsOf e=1)
  (hchk:∀(w:World)(em:Bool)(x:Int × Int),(Instr.checkKey em 10000 k (zEF x)).run P w= .ok () w):zGr P k zEF where
 check:=hchk
 find w x es kv h:=by
  have ask:∀(es:List MapEntry)(kv:List ((Int × Int) × Value))(j:Nat),es.map (λe=>(e.key,e.val))=kv.map (λp=>(zEF p.1,p.2))->(Instr.findAsking k (zEF x) es j).run P w= .ok (zCB kv x j) w:=by
   intro es
   induction es with
   |nil=>intro kv j h;cases kv with
    |nil=>simp[Instr.findAsking,zCB]
    |cons p kv=>simp at h
   |cons e' es ih=>intro kv j h;cases kv with
    |nil=>simp at h
    |cons p kv=>
     simp only[List.map_cons,List.cons.injEq,Prod.mk.injEq]at h;obtain⟨⟨h1,h2⟩,h3⟩:=h;have h4:=zL4 hk he hi hc w x p.1;unfold Instr.findAsking zCB;rw[h1];simp only[Sem.run_bind,h4,Result.andThen_ok];by_cases hx:x=p.1
     ·simp[hx,h2]
     ·simp[hx,ih kv (j+1) h3]
  cases es with
  |nil=>
   cases kv with
   |nil=>simp[Instr.findKey,run_underlying hk,Instr.findNow,zCB]
   |cons p kv=>simp at h
  |cons e' es=>
   have h0:=h
   cases kv with
   |nil=>simp at h
   |cons p kv=>
    simp only[List.map_cons,List.cons.injEq,Prod.mk.injEq]at h
    have hn:Instr.findNow (.array 2 e) (zEF x) (e'::es) 0=none:=by
     unfold Instr.findNow;rw[h.1.1];simp[Instr.sameNow]
    simp only[Instr.findKey,Sem.run_bind,run_underlying hk,Result.andThen_ok,hn];exact ask _ _ 0 h0
 stays w x:=by simp[Instr.keyThatStays,zEF,Instr.sameBits]
end pair
def kvA(d:List ((Int × Int) × Int)):List ((Int × Int) × Value):=d.map λp=>(p.1,.int .i64 p.2)
theorem zP9:∀(d:List ((Int × Int) × Int))(k:Int × Int),zA5 (kvA d) k=(kvI d k).map (.int .i64)
 |[],_=>rfl
 |p::r,k=>by
  have ih:=zP9 r k;unfold kvA at ih⊢;rw[List.map_cons,zA5,kvI];split
  ·rfl
  ·exact ih
theorem zPa:∀(d:List ((Int × Int) × Int))(k:Int × Int)(v:Int),zAt (kvA d) k (.int .i64 v)=kvA (zCI d k v)
 |[],_,_=>rfl
 |p::r,k,v=>by
  have ih:=zPa r k v;unfold kvA at ih⊢;rw[List.map_cons,zAt,zCI];split
  ·rfl
  ·rw[List.map_cons,<-ih]
end Go.Proofs.YtonmdbdopchkaaaGreatDoor
