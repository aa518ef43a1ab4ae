/- Texts CB CE W56 W22 W62 W72. -/
import Derived.Test.YtonmdbdopchkaaaGreatDoorM28
import Derived.Test.YtonmdbdopchkaaaGreatDoorM31
import Derived.Test.YtonmdbdopchkaaaGreatDoorM30
set_option linter.all false
namespace Go.Proofs.YtonmdbdopchkaaaGreatDoor
open Go.RowKit
set_option maxHeartbeats 8000000
set_option maxRecDepth 100000
def inn(g:List zB):Nat:=g.countP λn=>decide (n.kids≠[])
structure zF9 (all:List zB):Prop where
 nodup:all.Nodup
 leaf:∀n∈all,n.kids=[]->n=⟨n.leaf,0,[],[]⟩
theorem zF9.nil:zF9 []:=⟨by simp,by simp⟩
theorem zF9.len{all:List zB}(h:zF9 all):all.length≤inn all+2:=by
 have h1:(all.filter λn=>decide (n.kids=[])).length ≤2:=by
  have:=zDQ (all.filter λn=>decide (n.kids=[])) [⟨true,0,[],[]⟩,⟨false,0,[],[]⟩] (h.nodup.filter _) (λx hx=>by
   obtain⟨hm,hk⟩:=List.mem_filter.1 hx;have e:=h.leaf x hm (by simpa using hk);rw[e]
   cases x.leaf<;>simp)
  simpa using this
 have h2:=List.length_eq_countP_add_countP (λn:zB=>decide (n.kids=[])) (l:=all);have h3:all.countP (λa:zB=>decide ¬(decide (a.kids=[])=true))=inn all:=by unfold inn;congr 1;funext n;simp
 rw[List.countP_eq_length_filter]at h2;omega
theorem zUU(g t:List zB):inn (g++t)=inn g+inn t:=by unfold inn;rw[List.countP_append]
theorem zNw{all:List zB}(h:zF9 all){n:zB}(hn:n.kids=[]->n=⟨n.leaf,0,[],[]⟩):zF9 (zW all n).2∧Rng (zW all n).2 (zW all n).1∧inn (zW all n).2≤inn all+(if n.kids=[]then 0 else 1):=by
 unfold zW;by_cases hm:n∈all
 ·rw[if_pos hm];have hlt:=List.idxOf_lt_length_of_mem hm;exact⟨h,⟨by simp,by simpa using hlt⟩,by simp⟩
 ·rw[if_neg hm];refine⟨⟨?_,λm hm'=> ?_⟩,⟨by simp,by simp;omega⟩,?_⟩
  ·rw[List.nodup_append];exact⟨h.nodup,by simp,λa ha b hb e=>by simp at hb;subst hb;exact hm (e▸ha)⟩
  ·rcases List.mem_append.1 hm' with h'|h'
   ·exact h.leaf m h'
   ·simp at h';subst h';exact hn
  ·simp only;rw[zUU];(have:inn [n]=if n.kids=[]then 0 else 1:=by unfold inn;by_cases e:n.kids=[]<;>simp[e]);omega
theorem Rng.pre{g g':List zB}{i:Int}(h:Rng g i)(hp:∃t,g'=g++t):Rng g' i:=by obtain⟨t,rfl⟩:=hp;exact h.app t
theorem zLg{all:List zB}(h:zF9 all){i:Int}{ss ks:List Int}(hk:∀k∈ks,Rng all k)(hne:ks≠[]):zF9 (zb all i ss ks).2∧Rng (zb all i ss ks).2 (zb all i ss ks).1∧inn (zb all i ss ks).2≤inn all+1:=by
 unfold zb;split
 ·refine⟨h,hk _ (zAf (List.length_pos_iff.2 hne)),Nat.le_succ _⟩
 ·obtain⟨h1,h2,h3⟩:=zNw h (n:=⟨false,i,(zM (ks.getD 0 0) ss ks).1,ks.getD 0 0::(zM (ks.getD 0 0) ss ks).2⟩) (λe=>by cases e);exact⟨h1,h2,by simpa using h3⟩
structure WSt (st:GSt):Prop where
 tab:zF9 st.all
 done:∀p∈st.done,Rng st.all p.2
theorem WSt.new:WSt ⟨[],[],false⟩:=⟨zF9.nil,by simp⟩
theorem zIb{st:GSt}(h:WSt st)(b full:Bool):WSt (zBW b full st).2∧Rng (zBW b full st).2.all (zBW b full st).1∧inn (zBW b full st).2.all ≤inn st.all:=by
 obtain⟨h1,h2,h3⟩:=zNw h.tab (n:=⟨b,0,[],[]⟩) (λ_=>rfl);exact⟨⟨h1,λp hp=>(h.done p hp).pre (zDH _ _)⟩,h2,by show inn (zW st.all ⟨b,0,[],[]⟩).2≤_;simpa using h3⟩
theorem zIc{f:Int->GSt->Int × GSt}{B:Nat}(hpre:∀v st,∃t,(f v st).2.all =st.all++t)(hf:∀v st,WSt st->WSt (f v st).2∧Rng (f v st).2.all (f v st).1∧inn (f v st).2.all ≤max (inn st.all) B):∀(l:List Int)(st:GSt),WSt st->
  WSt (zH f l st).2∧(∀k∈(zH f l st).1,Rng (zH f l st).2.all k)∧inn (zH f l st).2.all ≤max (inn st.all) B
 |[],st,h=>⟨h,by simp[zH],Nat.le_max_left _ _⟩
 |v::l,st,h=>by
  obtain⟨h1,h2,h3⟩:=hf v st h;obtain⟨k1,k2,k3⟩:=zIc hpre hf l _ h1;refine⟨k1,λk hk=> ?_,?_⟩
  ·rcases List.mem_cons.1 hk with rfl|hk
   ·exact h2.pre (zGe hpre l _)
   ·exact k2 k hk
  ·unfold zH;simp only;omega
theorem zET{σ:Type}{f:Int->σ->Int × σ}{l:List Int}{st:σ}(h:l≠[]):(zH f l st).1≠[]:=by
 intro e;have:=zA6 (f:=f) l st;rw[e]at this;exact h (List.eq_nil_of_length_eq_zero this.symm)
theorem zId:∀(rest:List zC)(i:Nat)(f:Fm)(st:GSt),WSt st->WSt (zo rest i f st).2∧Rng (zo rest i f st).2.all (zo rest i f st).1∧inn (zo rest i f st).2.all ≤max (inn st.all) (4000+rest.length)
 |[],i,f,st,h=>by
  unfold zo;split
  ·obtain⟨a,b,c⟩:=zIb h (decide (f.op=1)) st.full;exact⟨a,b,by omega⟩
  ·obtain⟨a,b,c⟩:=zIb h false (st.full||decide (4000<st.all.length));exact⟨a,b,by omega⟩
 |x::rest,i,f,st,h=>by
  unfold zo;split
  ·obtain⟨a,b,c⟩:=zIb h (decide (f.op=1)) st.full;exact⟨a,b,by omega⟩
  ·split
   ·obtain⟨a,b,c⟩:=zIb h false true;exact⟨a,b,by omega⟩
   ·rename_i hfl;split
    ·rename_i k hk;exact⟨h,h.done _ (zHJ hk),Nat.le_max_left _ _⟩
    ·have hin:inn st.all≤4000:=by
      have h1:inn st.all≤st.all.length:=List.countP_le_length;(have h2:¬4000<st.all.length:=λe=>hfl (by rw[decide_eq_true e,Bool.or_true]));omega
     obtain⟨k1,k2,k3⟩:=zIc (f:=λv st=>zo rest (i+1) (zU x.name v f) st) (B:=4000+rest.length) (λv st=>zFD rest _ _ st) (λv st hs=>zId rest _ _ st hs) (zK f x) st h;obtain⟨i1,i2,i3⟩:=zLg k1.tab (i:=i) (ss:=zK f x) k2 (zET (by simp[zK]));refine⟨⟨i1,λp hp=> ?_⟩,i2,?_⟩
     ·rcases zDp hp with hp|hp
      ·exact(k1.done p hp).pre (zDB _ _ _ _)
      ·subst hp;exact i2
     ·simp only[List.length_cons];omega
theorem zTD{rest:List zC}{i:Nat}{f:Fm}{st:GSt}(h:WSt st){N:Nat}(hN:inn st.all≤N)(hr:4000+rest.length≤N):(zo rest i f st).2.all.length ≤N+2:=by
 obtain⟨a,b,c⟩:=zId rest i f st h;have:=a.tab.len;omega
theorem zPO(f:Fm)(x:zC):(zK f x).length ≤1+2*(z7 x.name f).length :=by
 have hi:∀(l:List Int)(n:Int),(zAE l n).length ≤l.length+1:=by
  intro l n
  induction l with
  |nil=>simp[zAE]
  |cons a r ih=>unfold zAE;split<;>(try split)<;>simp<;>omega
 have hf:∀(l m:List Int),(l.foldl zAE m).length ≤m.length+l.length:=by
  intro l
  induction l with
  |nil=>simp
  |cons a l ih=>intro m;rw[List.foldl_cons];have:=ih (zAE m a);have:=hi m a;simp;omega
 unfold zK zD2;have h1:=hf ((((z7 x.name f).flatMap λn=>[n,n+1]).filter λn=>decide (x.lo<n)&&decide (n≤x.hi))) []
 have h2:((((z7 x.name f).flatMap λn=>[n,n+1]).filter λn=>decide (x.lo<n)&&decide (n≤x.hi))).length ≤2*(z7 x.name f).length :=by
  refine Nat.le_trans (List.length_filter_le _ _) ?_;generalize z7 x.name f=l
  induction l with
  |nil=>simp
  |cons a l ih=>rw[List.flatMap_cons,List.length_append];simp at ih⊢;omega
 simp at h1⊢;omega
mutual
theorem zNx(nm:ByteArray):∀f:Fm,(z7 nm f).length ≤zJ f
 | .mk op n cm nu kids=>by
  have:=zMX nm kids;rw[z7,zJ,List.length_append];split<;>simp<;>omega
theorem zMX(nm:ByteArray):∀l:List Fm,(zj nm l).length ≤zX l
 |[]=>by simp[zj,zX]
 |k::r=>by
  have h1:=zNx nm k;have h2:=zMX nm r;rw[zj,zX,List.length_append];omega
end
mutual
def fitF:Fm->Prop
 | .mk op _ cm nu kids=>I64 op∧I64 cm∧I64 nu∧fitFs kids
def fitFs:List Fm->Prop
 |[]=>True
 |k::r=>fitF k∧fitFs r
end
mutual
theorem zGi:∀f:Fm,zCg f=true->fitF f->(zAi f).length ≤100*zJ f
 | .mk op nm cm nu kids,h,hf=>by
  rw[zCg]at h;rw[fitF]at hf;simp only[Bool.and_eq_true,decide_eq_true_eq]at h;obtain⟨⟨⟨h1,h2⟩,h3⟩,h4⟩:=h
  have hn:nm.data.toList.length≤24:=by
   split at h3
   ·revert h3;generalize nm.data.toList=l;intro h3
    cases l with
    |nil=>simp
    |cons c r=>unfold zA7 at h3;simp only[Bool.and_eq_true,decide_eq_true_eq]at h3;simpa using h3.2
   ·rw[decide_eq_true_eq]at h3;rw[h3];simp
  have hk:=zKs kids h4 hf.2.2.2;have e1:=Lib.itoa_length_le op hf.1.1 hf.1.2;have e2:=Lib.itoa_length_le cm hf.2.1.1 hf.2.1.2;have e3:=Lib.itoa_length_le nu hf.2.2.1.1 hf.2.2.1.2;rw[zAi,zJ];simp only[List.length_append,List.length_cons,List.length_nil];omega
theorem zKs:∀l:List Fm,zCz l=true->fitFs l->(zAJ l).length ≤100*zX l
 |[],_,_=>by simp[zAJ]
 |k::r,h,hf=>by
  rw[zCz]at h;rw[fitFs]at hf;simp only[Bool.and_eq_true]at h;have h1:=zGi k h.1 hf.1;have h2:=zKs r h.2 hf.2;rw[zAJ,zX,List.length_append];omega
end
mutual
theorem FmR.fitF{Z:zD}{w:World}:∀(f:Fm)(cs:List Value),FmR Z w f cs->fitF f
 | .mk op nm c n kids,cs,h=>by
  unfold FmR at h;obtain⟨h1,_,h3,h4,A,cap,e,_,_,_,h7⟩:=h;exact⟨h1,h3,h4,zt.fitFs kids A h7⟩
theorem zt.fitFs{Z:zD}{w:World}:∀(l:List Fm)(A:Option Addr),zt Z w l A->fitFs l
 |[],_,_=>trivial
 |k::ks,A,h=>by
  unfold zt at h;obtain⟨b,off,cs,e,hz,hc,h1,h2⟩:=h;exact⟨FmR.fitF k cs h1,zt.fitFs ks _ h2⟩
end
structure zFa (st:ASt):Prop where
 tab:zF9 st.all
 done:∀p∈st.done,Rng st.all p.2
theorem zFa.new:zFa ⟨[],[]⟩:=⟨zF9.nil,by simp⟩
theorem zLh{f:Int->ASt->Int × ASt}{B:Nat}(hpre:∀v st,∃t,(f v st).2.all =st.all++t)(hf:∀v st,zFa st->zFa (f v st).2∧Rng (f v st).2.all (f v st).1∧inn (f v st).2.all ≤max (inn st.all) B):∀(l:List Int)(st:ASt),zFa st->
  zFa (zH f l st).2∧(∀k∈(zH f l st).1,Rng (zH f l st).2.all k)∧inn (zH f l st).2.all ≤max (inn st.all) B
 |[],st,h=>⟨h,by simp[zH],Nat.le_max_left _ _⟩
 |v::l,st,h=>by
  obtain⟨h1,h2,h3⟩:=hf v st h;obtain⟨k1,k2,k3⟩:=zLh hpre hf l _ h1;refine⟨k1,λk hk=> ?_,?_⟩
  ·rcases List.mem_cons.1 hk with rfl|hk
   ·exact h2.pre (zG5 hpre l _)
   ·exact k2 k hk
  ·unfold zH;simp only;omega
section both
variable {ds:List zC} {a b:List zB}
theorem zNy(ha:Good ds a)(hb:Good ds b):∀(k:Nat)(x y:Int)(st:ASt),Rng a x->Rng b y->ds.length-(min (zF ds (nAt a x)) (zF ds (nAt b y))).toNat <k->zFa st->
  zFa (zAR ds a b k x y st).2∧Rng (zAR ds a b k x y st).2.all (zAR ds a b k x y st).1∧inn (zAR ds a b k x y st).2.all ≤max (inn st.all) (4000+(ds.length-(min (zF ds (nAt a x)) (zF ds (nAt b y))).toNat))
 |0,_,_,_,_,_,h,_=>by omega
 |k+1,x,y,st,hx,hy,hk,h=>by
  have ax:=zC7 ha hx;have ay:=zC7 hb hy;unfold zAR
  cases hkv:kvI st.done (x,y)with
  |some r=>exact⟨h,h.done _ (zHJ hkv),Nat.le_max_left _ _⟩
  |none=>
   simp only;by_cases hend:min (zF ds (nAt a x)) (zF ds (nAt b y))=ds.length∨4000<st.all.length
   ·simp only[if_pos hend];obtain⟨h1,h2,h3⟩:=zNw h.tab (n:=⟨(nAt a x).leaf &&(nAt b y).leaf,0,[],[]⟩) (λ_=>rfl);exact⟨⟨h1,λp hp=>(h.done p hp).pre (zDH _ _)⟩,h2,by simp only[if_true]at h3;omega⟩
   ·simp only[if_neg hend];have hi:min (zF ds (nAt a x)) (zF ds (nAt b y))<ds.length:=by omega
    have hin:inn st.all≤4000:=by
     have h1:inn st.all≤st.all.length:=List.countP_le_length;omega
    obtain⟨k1,k2,k3⟩:=zLh (f:=λv st=>zAR ds a b k (zG a x (min (zF ds (nAt a x)) (zF ds (nAt b y))) v) (zG b y (min (zF ds (nAt a x)) (zF ds (nAt b y))) v) st) (B:=4000+(ds.length-(min (zF ds (nAt a x)) (zF ds (nAt b y))).toNat)-1)
     (λv st=>zGF ds a b k _ _ st) (λv st hs=>by
      obtain⟨sx,gx⟩:=zBg ha (v:=v) hx (Int.min_le_left _ _) hi;obtain⟨sy,gy⟩:=zBg hb (v:=v) hy (Int.min_le_right _ _) hi;have bx:=zC7 ha sx;have by':=zC7 hb sy;obtain⟨a1,a2,a3⟩:=zNy ha hb k _ _ st sx sy (by omega) hs
      exact⟨a1,a2,by omega⟩) (zi ds (nAt a x) (nAt b y)) st h
    obtain⟨i1,i2,i3⟩:=zLg k1.tab (i:=min (zF ds (nAt a x)) (zF ds (nAt b y))) (ss:=zi ds (nAt a x) (nAt b y)) k2 (zET (by simp[zi]));refine⟨⟨i1,λp hp=> ?_⟩,i2,?_⟩
    ·rcases zDp hp with hp|hp
     ·exact(k1.done p hp).pre (zDB _ _ _ _)
     ·subst hp;exact i2
    ·omega
def zFG(ds:List zC)(a b:List zB):List zB × Int:=
 if zAB ds a=true∧zAB ds b=true then
  let r:=zAR ds a b (ds.length+1) 0 0 ⟨[],[]⟩
  if 4000<r.2.all.length then([],2)else if 4000<(zBH ds r.2.all r.1).length then([],2)else(zAQ ds r.2.all r.1,0)
 else([],1)
theorem zEw.new{P:List (Int × Int)}:zEw ds a b P ⟨[],[]⟩:=⟨Good.nil ds,by simp,λj hj=>by have:=hj.1;have:=hj.2;simp at*;omega⟩
def zIe(n m:Nat):List (Int × Int):=(List.range n).flatMap λ(i:Nat)=>(List.range m).map λ(j:Nat)=>((i:Int),(j:Int))
theorem zCd{n m:Nat}{p:Int × Int}:p∈zIe n m↔(0≤p.1∧p.1<n)∧0≤p.2∧p.2<m:=by
 unfold zIe;simp only[List.mem_flatMap,List.mem_map,List.mem_range];constructor
 ·rintro⟨i,hi,j,hj,rfl⟩;exact⟨⟨by simp,by simpa using hi⟩,by simp,by simpa using hj⟩
 ·rintro⟨⟨h1,h2⟩,h3,h4⟩;exact⟨p.1.toNat,by omega,p.2.toNat,by omega,Prod.ext (by simp only;omega) (by simp only;omega)⟩
theorem zH7(n m:Nat):(zIe n m).length =n*m:=by
 unfold zIe
 induction n with
 |zero=>simp
 |succ n ih=>rw[List.range_succ,List.flatMap_append,List.length_append,ih,Nat.add_mul];simp
theorem zNz(hg:Good ds a){x i v:Int}(hx:Rng a x):Rng a (zG a x i v):=by
 unfold zG;split
 ·rename_i h;have I:=hg.inner hx h.1;exact I.rng _ (I.kid_rng v)
 ·exact hx
theorem zDw(ha:Good ds a)(hb:Good ds b):Closed ds a b (zIe a.length b.length):=λp hp=>by
 obtain⟨h1,h2⟩:=zCd.1 hp;exact⟨h1,h2,λv=>zCd.2 ⟨zNz ha h1,zNz hb h2⟩⟩
theorem zDg(_ha:zAp ds a)(_hb:zAp ds b):ds.length-(min (zF ds (nAt a 0)) (zF ds (nAt b 0))).toNat <ds.length+1:=by omega
theorem zUg{g:List zB}(h:zFG ds a b=(g,0)):zAp ds a∧zAp ds b∧zAp ds g∧∀c,Fit ds c->S ds g 0 c=(S ds a 0 c&&S ds b 0 c):=by
 unfold zFG at h;split at h
 ·rename_i hv;have ha:=zAk.1 hv.1;have hb:=zAk.1 hv.2;have hl:=zBn ha.dom;simp only at h;split at h
  ·injection h with _ h;exact absurd h (by decide)
  ·rename_i h1;split at h
   ·injection h with _ h;exact absurd h (by decide)
   ·rename_i h2;injection h with h _;obtain⟨A,F⟩:=zG6 hl ha.good hb.good (zDw ha.good hb.good) (ds.length+1) 0 0 ⟨[],[]⟩ (zCd.2 ⟨ha.rng,hb.rng⟩) (zDg ha hb) zEw.new (Or.inr (by omega));subst h;refine⟨ha,hb,zJV ha.dom A.good F.rng (by unfold zAQ;rw[List.length_map];omega),λc hc=> ?_⟩;rw[zLo A.good F.rng];exact F.says c hc
 ·injection h with _ h;exact absurd h (by decide)
theorem zUV(ha:zAp ds a)(hb:zAp ds b){P:List (Int × Int)}(hP:Closed ds a b P)(h0:((0:Int),(0:Int))∈P)(hlen:P.length≤4000):(zFG ds a b).2=0:=by
 unfold zFG;rw[if_pos ⟨zAk.2 ha,zAk.2 hb⟩];have hl:=zBn ha.dom;obtain⟨A,F⟩:=zG6 hl ha.good hb.good hP (ds.length+1) 0 0 ⟨[],[]⟩ h0 (zDg ha hb) zEw.new (Or.inl hlen);have h1:=A.length_le hl;simp only;rw[if_neg (by omega),if_neg (by have:=(zCf A.good F.rng).length_le;omega)]
end both
def zQ(f:Fm)(x:zC):List Int:=zCA x.name x.lo x.hi f [x.lo]
theorem zDZ(f:Fm)(x:zC):1≤(zQ f x).length ∧(zQ f x).length ≤1+2*zJ f:=by
 obtain⟨h1,h2⟩:=zKr x.name x.lo x.hi f [x.lo];have:=List.length_pos_iff.2 (h2 (by simp));unfold zQ;simp at h1;omega
theorem zHu(Z:zD)(f:Fm)(x:zC)(cs:List Value)(w:World)(hf:FmR Z w f cs)(hs:zJ f≤1000)(hx:x.fit):
  Calls Tryz.prog 66 #[.agg cs.toArray,.agg #[.string x.name,.int .i64 x.kind,.int .i64 x.lo,.int .i64 x.hi]] w λe w'=>∃v',e= .returned v'∧zL (λb=>w.heap.size≤b) w' v' (zQ f x)∧Below w.heap.size w w':=by
 obtain⟨A,cap,rfl⟩:=FmR.form hf;have hb2:=((zE w (.cells #[.int .i64 f.op,.string f.name,.int .i64 f.cmp,.int .i64 f.num,.slice A f.kids.length cap] 24)).alloc (by simp) (.cells #[.string x.name,.int .i64 x.kind,.int .i64 x.lo,.int .i64 x.hi] 76)).alloc (by simp;omega) (.cells #[.int .i64 x.lo] 3);have hown:=zDJ (W:=((w.alloc (.cells #[.int .i64 f.op,.string f.name,.int .i64 f.cmp,.int .i64 f.num,.slice A f.kids.length cap] 24)).alloc (.cells #[.string x.name,.int .i64 x.kind,.int .i64 x.lo,.int .i64 x.hi] 76)).alloc (.cells #[.int .i64 x.lo] 3)) (base:=w.heap.size) (g:=w.heap.size+1+1) (Blk.new' _ 3 #[.int .i64 x.lo] (by simp)) (by omega) (by simp[maxLen]);have hin:=zL.of_own (xs:=[x.lo]) hown (λy hy=>by simp at hy;subst hy;exact hx.2.2.1) (by simp);have HC:=hid (zNq x.name x.lo x.hi (zJ f) f (Nat.le_refl _) Z _ _ _ [x.lo] _ (FmR.keep (.of_below hb2) _ _ hf) hin (by simp) (by simp;omega));have HB:=hid hb2;clear hf hb2 hown hin;go_enter Tryz.func66,Tryz.ntmps66
 go_wp2_with fail
 refine HC.out.mono ?_;rintro e w1 ⟨v1,rfl,hin1,hb1⟩;have hbw:=HB.out.trans (hb1.mono HB.out.size)
 have HI:=hid (show zL (λb=>w.heap.size≤b) w1 v1 (zQ f x) from hin1.mono λb hb=>by
  rcases hb with hb|hb
  ·exact hb
  ·exact Nat.le_trans HB.out.size hb)
 clear hin1 hb1;go_wp2;go_ret;exact⟨_,rfl,HI.out,hbw⟩
theorem zTE{q:Int}(h0: -9223372036854775808≤q)(h1:q≤9223372036854775807):IntKind.i64.wrap q=q:=by rw[IntKind.wrap_i64];omega
theorem zRv{a b A B:Int}(h0:1≤a)(h1:a≤A)(h2:1≤b)(h3:b≤B):1≤a*b∧a*b≤A*B:=by
 have e1:=Int.mul_le_mul h0 h2 (by omega) (by omega);have e2:=Int.mul_le_mul h1 h3 (by omega) (by omega);omega
def zCy(f:Fm)(n:Int):List zC->Int->Int
 |[],out=>out
 |x::r,out=>if n<out*(zQ f x).length then n+1 else zCy f n r (out*(zQ f x).length)
theorem zOA(Z Zd:zD)(f:Fm)(cs:List Value)(vd:Value)(ds:List zC)(n:Int)(w:World)(hf:FmR Z w f cs)(hd:Facts Zd w vd ds)(hs:zJ f≤1000)(h0:1≤n)(h1:n≤1000000):
  Calls Tryz.prog 25 #[.agg cs.toArray,.agg #[vd],.int .i64 n] w λe w'=>e= .returned (.int .i64 (zCy f n ds 1))∧Below w.heap.size w w':=by
 have HF:=hid hf;obtain⟨A,cap,rfl⟩:=FmR.form hf;obtain⟨D,dcap,rfl,hdcap,hdlen,hdat⟩:=hd.open_;have HD:=hid hdat;have hbx:=(Blk.new w 24 #[.int .i64 f.op,.string f.name,.int .i64 f.cmp,.int .i64 f.num,.slice A f.kids.length cap]).alloc (.cells #[.slice D ds.length dcap] 27);have hbd:=Blk.new' (w.alloc (.cells #[.int .i64 f.op,.string f.name,.int .i64 f.cmp,.int .i64 f.num,.slice A f.kids.length cap] 24)) 27 #[.slice D ds.length dcap] (n:=w.heap.size+1) (by simp);have hb0:=(zE w (.cells #[.int .i64 f.op,.string f.name,.int .i64 f.cmp,.int .i64 f.num,.slice A f.kids.length cap] 24)).alloc (by simp) (.cells #[.slice D ds.length dcap] 27);have zZ:=hid (And.intro hbx (And.intro hbd hb0));clear hf hd hdat hbx hbd hb0;go_enter Tryz.func25,Tryz.ntmps25
 go_wp2;go_loopw[7,8] (λo i wr=>∃(k:Nat)(out:Int),k≤ds.length∧i= .int .i64 k∧o= .int .i64 out∧1≤out∧out≤n∧Blk wr w.heap.size 24 #[.int .i64 f.op,.string f.name,.int .i64 f.cmp,.int .i64 f.num,.slice A f.kids.length cap]∧Blk wr (w.heap.size+1) 27 #[.slice D ds.length dcap]∧Below w.heap.size w wr∧Hid (zCy f n ds 1=zCy f n (ds.drop k) out)) (λ_ i _=>ds.length-(intOf i).toNat);case atStart=>exact⟨0,1,Nat.zero_le _,rfl,rfl,by omega,h0,zZ.out.1,zZ.out.2.1,zZ.out.2.2,rfl⟩
 case round=>
  obtain⟨k,out,hk,rfl,rfl,ho1,ho2,hbx,hbd,hbel,hres⟩:=hrel;have d0:=hbd.at0;have d0l:=hbd.lt;have b0l:=hbx.lt;have HB:=hid (And.intro hbx (And.intro hbd hbel));by_cases hlt:k<ds.length
  ·obtain⟨fb,foff,rfl,-,hfbl,x0,x1,x2,x3,hfit⟩:=HD.out k hlt;replace x0:=brd hbel x0 hfbl;replace x1:=brd hbel x1 hfbl;replace x2:=brd hbel x2 hfbl;replace x3:=brd hbel x3 hfbl;have x0l:=lt_of_cell x0;have b0:=hbx.at0;have b1:=hbx.at1;have b2:=hbx.at2;have b3:=hbx.at3;have b4:=hbx.at4;have hdr:ds.drop k=ds[k]::ds.drop (k+1):=List.drop_eq_getElem_cons hlt;have hres':=hres.out;rw[hdr,zCy]at hres';have HC:=hid (λW(hW:Below w.heap.size w W)=>zHu Z f ds[k] _ W (FmR.keep (.of_below hW) _ _ HF.out) hs hfit);have hsl:=zDZ f ds[k];(have hk1:((k:Nat):Int)<(ds.length:Int):=by omega);(have hk0:(0:Int)≤((k:Nat):Int):=by omega);have HR:=hid hres';clear hres hres' hdr hbx hbd hbel;generalize ds[k]=x at*;go_wp2
   go_region_held3(λw'=>w'.cell? ⟨w.heap.size,0,none⟩=some (.int .i64 f.op)∧w'.cell? ⟨w.heap.size,1,none⟩=some (.string f.name)∧w'.cell? ⟨w.heap.size,2,none⟩=some (.int .i64 f.cmp)∧w'.cell? ⟨w.heap.size,3,none⟩=some (.int .i64 f.num)∧w'.cell? ⟨w.heap.size,4,none⟩=some (.slice A f.kids.length cap)∧w'.cell? ⟨w.heap.size+1,0,none⟩=some (.slice (some ⟨fb,foff,none⟩) ds.length dcap)∧w'.cell? ⟨fb,foff+k*4,none⟩=some (.string x.name)∧w'.cell? ⟨fb,foff+k*4+1,none⟩=some (.int .i64 x.kind)∧w'.cell? ⟨fb,foff+k*4+2,none⟩=some (.int .i64 x.lo)∧w'.cell? ⟨fb,foff+k*4+3,none⟩=some (.int .i64 x.hi))
    (first|exact⟨p0,p1,p2,p3,p4,p5,p6,p7,p8,p9⟩|(refine⟨?_,?_,?_,?_,?_,?_,?_,?_,?_,?_⟩<;>go_keep))
    (first
     |(go_at_call 66;refine(HC.out _ HB.out.2.2.drew).mono ?_;rintro e w6 ⟨v6,rfl,hin6,hb6⟩;obtain⟨A6,cap6,rfl,-⟩:=hin6.form;have hbx6:=HB.out.1.drew.below hb6 b0l;have hbd6:=HB.out.2.1.drew.below hb6 d0l;have p0:w6.cell? ⟨w.heap.size,0,none⟩=some (.int .i64 f.op):=hbx6.cell 0;have p1:w6.cell? ⟨w.heap.size,1,none⟩=some (.string f.name):=hbx6.cell 1;have p2:w6.cell? ⟨w.heap.size,2,none⟩=some (.int .i64 f.cmp):=hbx6.cell 2;have p3:w6.cell? ⟨w.heap.size,3,none⟩=some (.int .i64 f.num):=hbx6.cell 3;have p4:w6.cell? ⟨w.heap.size,4,none⟩=some (.slice A f.kids.length cap):=hbx6.cell 4;have p5:w6.cell? ⟨w.heap.size+1,0,none⟩=some (.slice (some ⟨fb,foff,none⟩) ds.length dcap):=hbd6.cell 0;have p6:=brd hb6 x0 x0l;have p7:=brd hb6 x1 x0l;have p8:=brd hb6 x2 x0l;have p9:=brd hb6 x3 x0l))
   have hmb:=zRv ho1 (show out≤1000000 by omega) (show(1:Int)≤((zQ f x).length :Int) by omega) (show((zQ f x).length :Int)≤2001 by omega);have HB6:=hid (And.intro hbx6 (And.intro hbd6 (HB.out.2.2.drew.trans (hb6.mono HB.out.2.2.size))));have hwr:=zTE (q:=out*((zQ f x).length :Int)) (by omega) (by omega);rw[hwr];clear hwr p0 p1 p2 p3 p4 p5 p6 p7 p8 p9 hin6 hb6 hbx6 hbd6 HC hsl d0 d0l b0l b0 b1 b2 b3 b4 x0 x1 x2 x3 x0l;generalize out*((zQ f x).length :Int)=q at*;by_cases hnq:n<q
   ·rw[if_pos hnq]at HR;(have e1:decide (n<q)=true:=by simpa using hnq);clear hnq;go_wp2;go_ret;rw[HR.out];exact⟨rfl,HB6.out.2.2⟩
   ·rw[if_neg hnq]at HR;(have e1:decide (n<q)=false:=by simpa using hnq);(have hq2:q≤n:=by omega);clear hnq;go_wp2;go_roundw;(case rel=>exact⟨k+1,q,by omega,by go_num,rfl,hmb.1,hq2,HB6.out.1,HB6.out.2.1,HB6.out.2.2,HR⟩);case measure=>simp[intOf];omega
  ·(obtain rfl:k=ds.length:=by omega);have hres':=hres.out;rw[List.drop_length,zCy]at hres';have HR:=hid hres';clear hres hres' hbx hbd hbel;go_wp2;go_ret;rw[HR.out];exact⟨rfl,HB.out.2.2⟩
theorem zMY(nm:ByteArray)(x:Int)(ds:List zC):∀(m:Nat)(f:Fm),zJ f≤m->zJ f≤1000000->∀(Z:zD)(cs:List Value)(w:World),FmR Z w f cs->zq (zY ds) f=0->
  Calls Tryz.prog 35 #[.agg cs.toArray,.string nm,.int .i64 x] w (zDc Z (zU nm x f) w):=by
 intro m
 induction m with
 |zero=>intro f hm;have:=zBE f;omega
 |succ m ih=>
 intro f hm hM Z cs w hf hok;have IH:=hid ih;clear ih;obtain⟨A,cap,rfl⟩:=FmR.form hf;obtain⟨h0,hks⟩:=zDT hok;obtain⟨hform,htest⟩:=zFB h0;obtain⟨hkids,hkl⟩:=zKC hf;have HEV:=hid (zIV nm x f);by_cases h3:f.op=3
 ·by_cases hnm:f.name=nm
  ·(have hnm':(f.name.toList==nm.toList)=true:=by rw[zAq];simp[hnm]);(have hend:zU nm x f=kn (zHC x f.cmp f.num):=by rw[HEV.out,if_pos h3,if_pos hnm]);have HK:=hid (show ∀w',Below w.heap.size w w'->zDc Z (zU nm x f) w (.returned (knV (zHC x f.cmp f.num))) w' from λw' hw=>⟨_,rfl,by rw[hend];exact zNh _ _ _,hw⟩);(have h3':(f.op==(3:Int))=true:=by simp[h3]);have HC:=hid (λw=>zPH x f.cmp f.num w);generalize zHC x f.cmp f.num=b at*;have HN:=hid (λw=>zMI b w);clear HEV h3 hend hf hkids hks hok hform htest h0 IH hnm;(go_enter Tryz.func35,Tryz.ntmps35);(go_wp2_with fail);refine(HC.out _).mono ?_;rintro e w1 ⟨rfl,rfl⟩;dsimp only;(go_wp2_with fail);refine(HN.out _).mono ?_;rintro e w1 ⟨rfl,hb1⟩;have hb0:=zBw (zAy w _ _) hb1;(have hbl:w.heap.size+1<w1.heap.size:=by have:=hb1.size;simp at this;omega);have HB:=hid ((Blk.new (w.alloc (.cells #[.int .i64 f.op,.string f.name,.int .i64 f.cmp,.int .i64 f.num,.slice A f.kids.length cap] 24)) 24 #[.int .i64 0,.string ⟨#[]⟩,.int .i64 0,.int .i64 0,.slice none 0 0]).below hb1 (by simp));simp only[World.size_alloc]at HB;have hb9:=hid hb0;clear hb0 hb1;unfold knV at HK;unfold knV;dsimp only;go_wp2_with(refine zg rfl 24 _ _ rfl rfl rfl HB.out rfl Tryz.szF (by simp[Value.oneCell']) ?_;intro w2 hb2 hk2 hs2);obtain⟨⟨r0,r1,r2,r3,r4⟩,-⟩:=zCw hb2;refine bodyPost_ret (v:=knV b) (by unfold knV;simp[results,Tryz.results35,go_sem,r0,r1,r2,r3,r4];try rfl) rfl (HK.out _ (zAV hb9.out hk2 (by omega) (by omega)))
  ·(have hnm':(f.name.toList==nm.toList)=false:=by rw[zAq];simp[hnm]);(have hend:zU nm x f=f:=by rw[HEV.out,if_pos h3,if_neg hnm]);have HK:=hid (show ∀w',Below w.heap.size w w'->zDc Z (zU nm x f) w (.returned (.agg #[.int .i64 f.op,.string f.name,.int .i64 f.cmp,.int .i64 f.num,.slice A f.kids.length cap])) w' from λw' hw=>⟨_,rfl,by rw[hend];exact FmR.mono (λb hb=>Or.inl hb) _ _ (FmR.keep (.of_below hw) _ _ hf),hw⟩);(have h3':(f.op==(3:Int))=true:=by simp[h3]);clear HEV h3 hend hf hkids hks hok hform htest h0 IH hnm;(go_enter Tryz.func35,Tryz.ntmps35);go_wp2;refine bodyPost_ret (v:= .agg #[.int .i64 f.op,.string f.name,.int .i64 f.cmp,.int .i64 f.num,.slice A f.kids.length cap]) (by simp[results,Tryz.results35,go_sem];try rfl) rfl (HK.out _ (by(repeat(first|exact Below.refl _ _ |assumption|refine below_drewN' ?_ _ |refine Below.drew ?_ |(refine Below.setCell ?_ (by first|exact Nat.le_refl _ |(simp;done)|(simp;omega)|omega) _)|(refine Below.alloc ?_ (by first|exact Nat.le_refl _ |(simp;done)|(simp;omega)|omega) _)))))
 ·have h3':(f.op==(3:Int))=false:=by simp[h3]
  by_cases h4:f.op=4
  ·have hl1:f.kids.length=1:=by
    rw[zGL h3]at hform;split at hform
    ·simp at hform
    ·simpa[h4]using hform
   obtain⟨g,hg⟩:∃g,f.kids=[g]:=by
    cases hk:f.kids with
    |nil=>rw[hk]at hl1;simp at hl1
    |cons x r=>rw[hk]at hl1;simp at hl1;exact⟨x,by rw[hl1]⟩
   (have hle:zJ g<zJ f:=by have:=zBM f;rw[hg]at this;simp[zX]at this;omega);rw[hg]at hkids hks;have hgk:zq (zY ds) g=0:=zDs hks 0 (by simp);obtain⟨b,off,cs,rfl,hz,hcs,hfk,-⟩:=hkids;have hfk':=hfk;obtain⟨A',cap',rfl⟩:=FmR.form hfk;obtain⟨c0,c1,c2,c3,c4⟩:=zp (λj u hu=>hcs j u hu);have HC:=hid (λW(h:Below w.heap.size w W)=>IH.out g (by omega) (by omega) (λb=>Z b∧b<w.heap.size) _ W (FmR.keep (.of_below h) _ _ (FmR.live _ _ hfk')) hgk);(have hend:zU nm x f=zDb (zU nm x g):=by rw[HEV.out,if_neg h3,if_pos h4,hg];simp[zw]);have HG:=hid hend;(have hl0:(0:Int)<(f.kids.length:Nat):=by omega);(have hl9:0<f.kids.length:=by omega);have hbl:=lt_of_cell c0;(have h4':(f.op==(4:Int))=true:=by simp[h4]);clear HEV h3 h4 hcs hfk hfk' hle hg hl1 hks hform htest h0 hgk hf hend;generalize zU nm x g=g' at*;(go_enter Tryz.func35,Tryz.ntmps35);(go_wp2_with fail);refine(HC.out _ (zAy w _ _)).mono ?_;rintro e w1 ⟨cs1,rfl,hg1,hb1⟩;obtain⟨A1,cap1,rfl⟩:=FmR.form hg1;have hb0:=zBw (zAy w _ _) hb1;(have hbl1:w.heap.size+1<w1.heap.size:=by have:=hb1.size;simp at this;omega);have HB:=hid ((Blk.new (w.alloc (.cells #[.int .i64 f.op,.string f.name,.int .i64 f.cmp,.int .i64 f.num,.slice (some ⟨b,off,none⟩) f.kids.length cap] 24)) 24 #[.int .i64 0,.string ⟨#[]⟩,.int .i64 0,.int .i64 0,.slice none 0 0]).below hb1 (by simp));simp only[World.size_alloc]at HB;have hb9:=hid hb0;have HG1:=hid hg1;clear hb0 hb1 hg1;dsimp only;by_cases hk12:g'.op=1∨g'.op=2
   ·have hK12:=hid (show zDb g'=kn (g'.op==2) from if_pos hk12)
    have hor:((g'.op==(1:Int))=true∧(g'.op==(2:Int))=false)∨((g'.op==(1:Int))=false∧(g'.op==(2:Int))=true):=by
     rcases hk12 with h|h<;>simp[h]
    have HN:=hid (λb w=>zMI b w);clear hk12;rcases hor with⟨ho,ho2⟩|⟨ho,ho2⟩
    ·(go_wp2_with fail);refine(HN.out _ _).mono ?_;rintro e w2 ⟨rfl,hb2⟩;have hHB:=hid (((HB.out).alloc (.cells #[.int .i64 g'.op,.string g'.name,.int .i64 g'.cmp,.int .i64 g'.num,.slice A1 g'.kids.length cap1] 24)).below hb2 (by simp;omega));have hb3:=hid (zBw (hb9.out.alloc hb9.out.size _) hb2);(have hbl2:w.heap.size+1<w2.heap.size:=by have:=hb2.size;simp at this;omega);clear hb2;unfold knV;dsimp only;go_wp2_with(refine zg rfl 24 _ _ rfl rfl rfl hHB.out rfl Tryz.szF (by simp[Value.oneCell']) ?_;intro w3 hb4 hk3 hs3);obtain⟨⟨r0,r1,r2,r3,r4⟩,-⟩:=zCw hb4;refine bodyPost_ret (v:=knV false) (by unfold knV;simp[results,Tryz.results35,go_sem,r0,r1,r2,r3,r4];try rfl) rfl ⟨_,rfl,?_,zAV hb3.out hk3 (by omega) (by omega)⟩;rw[HG.out,hK12.out,ho2];exact zNh _ _ _
    ·(go_wp2_with fail);refine(HN.out _ _).mono ?_;rintro e w2 ⟨rfl,hb2⟩;have hHB:=hid (((HB.out).alloc (.cells #[.int .i64 g'.op,.string g'.name,.int .i64 g'.cmp,.int .i64 g'.num,.slice A1 g'.kids.length cap1] 24)).below hb2 (by simp;omega));have hb3:=hid (zBw (hb9.out.alloc hb9.out.size _) hb2);(have hbl2:w.heap.size+1<w2.heap.size:=by have:=hb2.size;simp at this;omega);clear hb2;unfold knV;dsimp only;go_wp2_with(refine zg rfl 24 _ _ rfl rfl rfl hHB.out rfl Tryz.szF (by simp[Value.oneCell']) ?_;intro w3 hb4 hk3 hs3);obtain⟨⟨r0,r1,r2,r3,r4⟩,-⟩:=zCw hb4;refine bodyPost_ret (v:=knV true) (by unfold knV;simp[results,Tryz.results35,go_sem,r0,r1,r2,r3,r4];try rfl) rfl ⟨_,rfl,?_,zAV hb3.out hk3 (by omega) (by omega)⟩;rw[HG.out,hK12.out,ho2];exact zNh _ _ _
   ·(have hk1:(g'.op==(1:Int))=false:=by simp;omega);(have hk2:(g'.op==(2:Int))=false:=by simp;omega);have HN:=hid (show zDb g'= .mk 4 ⟨#[]⟩ 0 0 [g'] from if_neg hk12);clear hk12;go_wp2_with(refine zg rfl 24 _ _ rfl rfl rfl (((HB.out).alloc _).alloc _) rfl Tryz.szF (by simp[Value.oneCell']) ?_;intro w2 hb2 hk2 hs2);obtain⟨⟨r0,r1,r2,r3,r4⟩,-⟩:=zCw hb2;have hK:zA (λb=>(Z b∨w.heap.size≤b)∧b≠w.heap.size+1) w1 w2:=(((zA.refl _ _).alloc _).alloc _).trans (hk2.mono (λ_ _ h=>h.2))
    have hkid:w2.heap[w1.heap.size+1]? =some (.cells #[.int .i64 g'.op,.string g'.name,.int .i64 g'.cmp,.int .i64 g'.num,.slice A1 g'.kids.length cap1] 24 (0,0)):=by
     rw[hk2.block _ (by simp) (by omega)];have:=heap_alloc_new (w1.alloc (.cells #[.int .i64 g'.op,.string g'.name,.int .i64 g'.cmp,.int .i64 g'.num,.slice A1 g'.kids.length cap1] 24)) (.cells #[.int .i64 g'.op,.string g'.name,.int .i64 g'.cmp,.int .i64 g'.num,.slice A1 g'.kids.length cap1] 24);simpa using this
    have hbel:Below w.heap.size w w2:=zAV ((hb9.out.alloc hb9.out.size _).alloc (by simp;omega) _) hk2 (by omega) (by simp;omega);refine bodyPost_ret (v:= .agg #[.int .i64 4,.string ⟨#[]⟩,.int .i64 0,.int .i64 0,.slice (some ⟨w1.heap.size+1,0,none⟩) 1 1]) (by simp[results,Tryz.results35,go_sem,r0,r1,r2,r3,r4];try rfl) rfl ?_;refine⟨_,rfl,?_,hbel⟩;rw[HG.out,HN.out]
    have hlive:=FmR.mono (Z':=λb=>(Z b∨w.heap.size≤b)∧b≠w.heap.size+1) (λb hb=>by
     obtain⟨h1,h2⟩:=hb;rcases h1 with⟨h1,h3⟩|h1
     ·exact⟨Or.inl h1,by omega⟩
     ·simp at h1;exact⟨Or.inr (by omega),by omega⟩) _ _ (FmR.live _ _ HG1.out)
    have hkk:=FmR.keep hK _ _ hlive;have hkm:=FmR.mono (Z':=λb=>Z b∨w.heap.size≤b) (λb hb=>hb.1) _ _ hkk;unfold FmR;refine⟨by simp[I64],by decide,by simp[I64],by simp[I64],_,1,rfl,Nat.le_refl _,by decide,by simp,?_⟩;unfold zt;refine⟨_,_,_,rfl,Or.inr (by omega),λj u hu=> ?_,hkm,by unfold zt;trivial⟩;rw[cell_of_row w2 _ _ _ _ _ hkid];simpa using hu
  ·(have h4':(f.op==(4:Int))=false:=by simp[h4]);by_cases h56:f.op=5∨f.op=6
   ·by_cases h5:f.op=5
    ·exact zNr nm x ds m IH.out f hm hM Z A cap w hf hok h5
    ·exact zPL nm x ds m IH.out f hm hM Z A cap w hf hok (by omega)
   ·(have h5':(f.op==(5:Int))=false:=by simp;omega);(have h6':(f.op==(6:Int))=false:=by simp;omega);(have hend:zU nm x f=f:=by rw[HEV.out,if_neg h3,if_neg h4,if_neg h56]);have HK:=hid (show ∀w',Below w.heap.size w w'->zDc Z (zU nm x f) w (.returned (.agg #[.int .i64 f.op,.string f.name,.int .i64 f.cmp,.int .i64 f.num,.slice A f.kids.length cap])) w' from λw' hw=>⟨_,rfl,by rw[hend];exact FmR.mono (λb hb=>Or.inl hb) _ _ (FmR.keep (.of_below hw) _ _ hf),hw⟩);clear HEV h3 h4 h56 hend hf hkids hks hok hform htest h0 IH;(go_enter Tryz.func35,Tryz.ntmps35);go_wp2;refine bodyPost_ret (v:= .agg #[.int .i64 f.op,.string f.name,.int .i64 f.cmp,.int .i64 f.num,.slice A f.kids.length cap]) (by simp[results,Tryz.results35,go_sem];try rfl) rfl (HK.out _ (by(repeat(first|exact Below.refl _ _ |assumption|refine below_drewN' ?_ _ |refine Below.drew ?_ |(refine Below.setCell ?_ (by first|exact Nat.le_refl _ |(simp;done)|(simp;omega)|omega) _)|(refine Below.alloc ?_ (by first|exact Nat.le_refl _ |(simp;done)|(simp;omega)|omega) _)))))
def zCJ(f:Fm)(ds:List zC):Bool:=decide (zJ f≤250)&&(decide (ds.length≤70)&&decide (zCy f 400 ds 1≤400))
theorem zRw(Z Zd:zD)(f:Fm)(cs:List Value)(vd:Value)(ds:List zC)(w:World)(hf:FmR Z w f cs)(hd:Facts Zd w vd ds):
  Calls Tryz.prog 5 #[.agg cs.toArray,.agg #[vd]] w λe w'=>e= .returned (.bool (zCJ f ds))∧Below w.heap.size w w':=by
 have HF:=hid hf;have HD:=hid hd;obtain⟨A,cap,rfl⟩:=FmR.form hf;obtain⟨D,dcap,rfl,-,-,-⟩:=hd.open_;have hb2:=(zE w (.cells #[.int .i64 f.op,.string f.name,.int .i64 f.cmp,.int .i64 f.num,.slice A f.kids.length cap] 24)).alloc (by simp) (.cells #[.slice D ds.length dcap] 27);have hbf:=(Blk.new w 24 #[.int .i64 f.op,.string f.name,.int .i64 f.cmp,.int .i64 f.num,.slice A f.kids.length cap]).alloc (.cells #[.slice D ds.length dcap] 27);have hbd:=Blk.new' (w.alloc (.cells #[.int .i64 f.op,.string f.name,.int .i64 f.cmp,.int .i64 f.num,.slice A f.kids.length cap] 24)) 27 #[.slice D ds.length dcap] (n:=w.heap.size+1) (by simp);have HS:=hid (zNl Z f _ 250 _ (FmR.keep (.of_below hb2) _ _ hf) (by omega) (by omega));have HB:=hid (And.intro hbf (And.intro hbd hb2));clear hb2 hbf hbd hf hd;go_enter Tryz.func5,Tryz.ntmps5
 by_cases h1:zJ f≤250
 ·rw[decide_eq_true (show(zJ f:Int)≤250 by omega)]at HS;have H1:=hid h1;clear h1;go_wp2_with fail
  refine HS.out.mono ?_;rintro e w1 ⟨rfl,hb⟩;have hbf:=HB.out.1.below hb HB.out.1.lt;have hbd:=HB.out.2.1.below hb HB.out.2.1.lt;have hbw:=HB.out.2.2.trans (hb.mono HB.out.2.2.size);have d0:=hbd.at0;have dl:=hbd.lt;by_cases h2:ds.length≤70
  ·have e2:decide ((ds.length:Int)≤70)=true:=decide_eq_true (by omega);have HC:=hid (zOA Z Zd f _ (.slice D ds.length dcap) ds 400 w1 (FmR.keep (.of_below hbw) _ _ HF.out) (HD.out.keep (.of_below hbw)) (by have:=H1.out;omega) (by omega) (by omega));have f0:=hbf.at0;have f1:=hbf.at1;have f2:=hbf.at2;have f3:=hbf.at3;have f4:=hbf.at4;have fl:=hbf.lt;have H2:=hid h2;have HW:=hid hbw;clear hbf hbd hbw hb HB HS h2;(go_wp2_with fail);refine HC.out.mono ?_;rintro e w2 ⟨rfl,hb⟩;have hbw:=HW.out.trans (hb.mono HW.out.size);have HW2:=hid hbw;clear d0 dl f0 f1 f2 f3 f4 fl hb hbw HC HW;(go_wp2_with fail);exact bodyPost_ret (v:= .bool (zCJ f ds)) (by simp[results,Tryz.results5,go_sem,zCJ,H1.out,H2.out]) rfl ⟨rfl,HW2.out⟩
  ·have e2:decide ((ds.length:Int)≤70)=false:=decide_eq_false (by omega);have H2:=hid h2;have HW:=hid hbw;clear hbf hbd hbw hb HB HS h2;(go_wp2_with fail);exact bodyPost_ret (v:= .bool (zCJ f ds)) (by simp[results,Tryz.results5,go_sem,zCJ,H2.out]) rfl ⟨rfl,HW.out⟩
 ·rw[decide_eq_false (show ¬(zJ f:Int)≤250 by omega)]at HS;have H1:=hid h1;clear h1;go_wp2_with fail
  refine HS.out.mono ?_;rintro e w1 ⟨rfl,hb⟩;have hbw:=HB.out.2.2.trans (hb.mono HB.out.2.2.size);have HW:=hid hbw;clear hb hbw HB HS;go_wp2_with fail
  exact bodyPost_ret (v:= .bool (zCJ f ds)) (by simp[results,Tryz.results5,go_sem,zCJ,H1.out]) rfl ⟨rfl,HW.out⟩
theorem zLi(Z Z':zD)(n:zB)(cs:List Value)(vd:Value)(ds:List zC)(w:World)(hn:zd Z w cs n)(hd:Facts Z' w vd ds):
  Calls Tryz.prog 44 #[.agg cs.toArray,.agg #[vd]] w λe w'=>e= .returned (.int .i64 (zF ds n))∧Below w.heap.size w w':=by
 obtain⟨vc,vk,rfl,-,hcu,hki⟩:=hn;obtain⟨D,dcap,rfl,-,-,-⟩:=hd.open_;obtain⟨K,kcap,rfl,-⟩:=hki.form;obtain⟨KU,ucap,rfl,-⟩:=hcu.form;have HB:=hid (zAy w (.cells #[.bool n.leaf,.int .i64 n.fact,.slice KU n.cuts.length ucap,.slice K n.kids.length kcap] 51) (.cells #[.slice D ds.length dcap] 27));clear hcu hki hd;by_cases hk:n.kids=[]
 ·have e:zF ds n=ds.length:=by unfold zF;rw[if_pos hk]
  have e3:((n.kids.length:Int)==0)=true:=by simp[hk]
  rw[e];clear e hk;go_enter Tryz.func44,Tryz.ntmps44
  go_wp2;go_ret;exact⟨rfl,HB.out⟩
 ·have e:zF ds n=n.fact:=by unfold zF;rw[if_neg hk]
  have e3:((n.kids.length:Int)==0)=false:=by simp[hk]
  rw[e];clear e hk;go_enter Tryz.func44,Tryz.ntmps44
  go_wp2;go_ret;exact⟨rfl,HB.out⟩
theorem zOB(Z:zD)(vg:Value)(g:List zB)(ds:List zC)(x i v:Int)(w:World)(hg:zO Z w vg g)(hgood:Good ds g)(hx:Rng g x):
  Calls Tryz.prog 47 #[.agg #[vg],.int .i64 x,.int .i64 i,.int .i64 v] w λe w'=>e= .returned (.int .i64 (zG g x i v))∧Below w.heap.size w w':=by
 obtain⟨A,cap,rfl,hcap,hlen,hat⟩:=hg.open_;obtain⟨k,rfl⟩:=Int.eq_ofNat_of_zero_le hx.1;have hi:k<g.length:=by have:=hx.2;omega
 obtain⟨b,off,vcu,vki,rfl,hz,hb,c0,c1,c2,c3,hf,hcu,hki⟩:=hat k hi;have hnat:nAt g (k:Int)=g[k]:=zAI hi;have HI:=hid (λ(h:(nAt g k).kids ≠[])=>(hgood.inner hx h).nxL v);have HL:=hid (λ(h:(nAt g k).kids ≠[])=>(hgood.inner hx h).len);have HU:=hid (show zG g k i v=if(nAt g k).kids ≠[]∧(nAt g k).fact =i then(nAt g k).kids.getD (nx (nAt g k).cuts v) 0 else(k:Int) from rfl);rw[hnat]at HI HL HU;obtain⟨KU,ucap,rfl,-⟩:=hcu.form;obtain⟨K,kcap,rfl,hkl⟩:=hki.form;have hi1:(k:Int)<(g.length:Int):=by omega
 have HN:=hid (λW(hW:Below w.heap.size w W)=>zLz Z g[k] [.bool g[k].leaf,.int .i64 g[k].fact,.slice KU g[k].cuts.length ucap,.slice K g[k].kids.length kcap] v W ((show zd Z w _ g[k] from⟨_,_,rfl,hf,hcu,hki⟩).keep (.of_below hW)));have HK:=hid hki;generalize g[k]=n at*;clear hat hcap hnat hgood hx hcu hki hg hf;have hbx:=(Blk.new' (w.alloc (.cells #[.slice (some ⟨b,off,none⟩) g.length cap] 30)) 51 #[.bool n.leaf,.int .i64 n.fact,.slice KU n.cuts.length ucap,.slice K n.kids.length kcap] (n:=w.heap.size+1) (by simp));have hb2:=zAy w (.cells #[.slice (some ⟨b,off,none⟩) g.length cap] 30) (.cells #[.bool n.leaf,.int .i64 n.fact,.slice KU n.cuts.length ucap,.slice K n.kids.length kcap] 51);have HB:=hid (And.intro hbx hb2);clear hbx hb2;by_cases hk:n.kids=[]
 ·have e:zG g k i v=k:=by rw[HU.out,if_neg (λh=>h.1 hk)]
  have e3:decide ((0:Int)<(n.kids.length:Int))=false:=by simp[hk]
  have e5:decide (0<n.kids.length)=false:=by simp[hk]
  rw[e];clear e hk HU HI HL HN HK;go_enter Tryz.func47,Tryz.ntmps47
  go_wp2;go_ret;exact⟨rfl,HB.out.2⟩
 ·have hkp:0<n.kids.length:=List.length_pos_iff.2 hk;have e3:decide ((0:Int)<(n.kids.length:Int))=true:=by simp;omega
  by_cases hfi:n.fact=i
  ·have HU2:=hid (HU.out.trans (if_pos ⟨hk,hfi⟩));have HI2:=hid (HI.out hk);have HL2:=hid (HL.out hk);(have e4:(n.fact==i)=true:=by simp[hfi]);rw[HU2.out];clear hk HU HI HL hfi;have hnx:=zCs n.cuts v;obtain⟨q,hq⟩:∃q:Nat,q=nx n.cuts v:=⟨_,rfl⟩;(have hql:q<n.kids.length:=by have:=HL2.out;omega);obtain⟨kb,koff,rfl,-,hkb,hkc⟩:=HK.out.at_ hql;have HQ:=hid (show n.kids[q]=n.kids.getD (nx n.cuts v) 0 from by rw[<-hq];simp[List.getD_eq_getElem?_getD,hql]);have HNX:=hid (show nxL n v=(q:Int) from by rw[HI2.out,hq]);generalize n.kids[q]=r at*;(have hql1:(q:Int)<(n.kids.length:Int):=by omega);have hkcl:=lt_of_cell hkc;have HKC:=hid hkc;rw[<-HQ.out];clear hq HQ HU2 HI2 HL2 hkc hnx hkp;(go_enter Tryz.func47,Tryz.ntmps47);(go_upto_region 3 with fail);have HW1:=HB;generalize (w.alloc (.cells #[.slice (some ⟨b,off,none⟩) g.length cap] 30)).alloc (.cells #[.bool n.leaf,.int .i64 n.fact,.slice KU n.cuts.length ucap,.slice (some ⟨kb,koff,none⟩) n.kids.length kcap] 51)=W1 at*
   have zBT:=hid (λ(W:World)(hW:Below W1.heap.size W1 W)=>(show W.cell? ⟨w.heap.size+1,0,none⟩=some (.bool n.leaf)∧W.cell? ⟨w.heap.size+1,1,none⟩=some (.int .i64 n.fact)∧W.cell? ⟨w.heap.size+1,2,none⟩=some (.slice KU n.cuts.length ucap)∧W.cell? ⟨w.heap.size+1,3,none⟩=some (.slice (some ⟨kb,koff,none⟩) n.kids.length kcap)∧W.cell? ⟨kb,koff+q,none⟩=some (.int .i64 r) from by
    have hx:=HW1.out.1.below hW HW1.out.1.lt;have hw:=HW1.out.2.trans (hW.mono HW1.out.2.size)
    exact⟨hx.cell 0,hx.cell 1,hx.cell 2,hx.cell 3,brd hw HKC.out hkcl⟩))
   clear c0 c1 c2 c3;refine zAO 7 (λW=>Below W1.heap.size W1 W) (by kernel_rfl) ?_;have hS:(λW=>Below W1.heap.size W1 W) W1.drew:=(Below.refl _ _).drew
   (refine tkZ 0 ?_ hS ?_ ?_;rotate_left;intro w;go_simp;(try with_reducible rfl);simp only[nr])
   (refine tkS 1 ?_ hS ?_ ?_;rotate_left;intro w hkw;obtain⟨h0,h1,h2,h3,h4⟩:=zBT.out _ hkw;go_simp;(try with_reducible rfl);simp only[nr])
   (refine tkS 2 ?_ hS ?_ ?_;rotate_left;intro w hkw;obtain⟨h0,h1,h2,h3,h4⟩:=zBT.out _ hkw;go_simp;(try with_reducible rfl);simp only[nr])
   (refine tkZ 3 ?_ hS ?_ ?_;rotate_left;intro w;go_simp;(try with_reducible rfl);simp only[nr])
   refine wS1 4 (λK hK=> ?_);(go_wp2_with fail);refine(HN.out _ (HW1.out.2.trans ((Below.refl _ _).drew.mono HW1.out.2.size))).mono ?_;rintro e w1 ⟨rfl,hb1⟩;rw[HNX.out];have hS1:Below W1.heap.size W1 w1:=((Below.refl W1.heap.size W1).drew).trans hb1;refine hK _ _ (Or.inr hS1) ?_;clear hK K hb1 hS
   (try simp only[nr])
   have hS:(λW=>Below W1.heap.size W1 W) w1:=hS1
   (refine tkZ 5 ?_ hS ?_ ?_;rotate_left;intro w;go_simp;(try with_reducible rfl);simp only[nr])
   (refine tkS 6 ?_ hS ?_ ?_;rotate_left;intro w hkw;obtain⟨h0,h1,h2,h3,h4⟩:=zBT.out _ hkw;go_simp;(try with_reducible rfl);simp only[nr])
   refine wS1 7 (λK hK=> ?_);(go_wp2_with fail);refine hK _ _ (Or.inl rfl) ?_;clear hK K
   (try simp only[nr])
   refine wSd ?_ _;have hbw:=HW1.out.2.trans (hS1.mono HW1.out.2.size);clear hS hS1 zBT HN HKC;go_wp2;go_ret;exact⟨rfl,hbw⟩
  ·(have e:zG g k i v=k:=by rw[HU.out,if_neg (λh=>hfi h.2)]);(have e4:(n.fact==i)=false:=by simp[hfi]);rw[e];clear e hk HU HI HL HN HK hfi;(go_enter Tryz.func47,Tryz.ntmps47);go_wp2;go_ret;exact⟨rfl,HB.out.2⟩
end Go.Proofs.YtonmdbdopchkaaaGreatDoor
