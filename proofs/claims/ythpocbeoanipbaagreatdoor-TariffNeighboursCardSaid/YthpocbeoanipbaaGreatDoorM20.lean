/- Texts PP CB CE CJ TA TP TX CS TQ TQ2. -/
import Derived.Test.YthpocbeoanipbaaGreatDoorM18
import Derived.Lib.ItoaLen
import Derived.Lib.Join
import Derived.Lib.SlicesCompact
set_option linter.all false
namespace Go.Proofs.YthpocbeoanipbaaGreatDoor
open Go.RowKit
variable{all g:List zB}{c l:List Int}{ds:List zC}{f:Fm}{i op:Int}{st:GSt}{word:ByteArray}
instance decMem (x:ByteArray) (l:List ByteArray):Decidable (x∈l):=decidable_of_iff (∃y∈l,y=x) (by simp)
structure zI where
 when_:Fm
 cls:ByteArray
 ctl:Bool
structure zY where
 dom:List zC
 lines:List zI
def zFQ(ds:List zC)(l:zI):Bool:=zCf l.cls&&(zA5 ds l.when_==0)
def z7(t:zY):Bool:=zN t.dom&&decide (0<t.lines.length)&&decide (t.lines.length<=100)&&t.lines.all (zFQ t.dom)
def zAw(t:zY)(c:List Int):Nat:=t.lines.findIdx (λl=>zCZ t.dom c l.when_)
def zAR(t:zY)(c:List Int):Int × Int:=
 if(z7 t&&fits t.dom c)=false then(0,1)else if zAw t c<t.lines.length then((zAw t c:Nat),0)else(0,11)
def inn(g:List zB):Nat:=g.countP λn=>decide (n.kids≠[])
structure zGZ (all:List zB):Prop where
 nodup:all.Nodup
 leaf:∀n∈all,n.kids=[]->n=⟨n.leaf,0,[],[]⟩
theorem zGZ.nil:zGZ []:=⟨by simp,by simp⟩
theorem zGZ.len(h:zGZ all):all.length<=inn all+2:=by
 have g:(all.filter λn=>decide (n.kids=[])).length <=2:=by
  have:=zG2 (all.filter λn=>decide (n.kids=[])) [⟨true,0,[],[]⟩,⟨false,0,[],[]⟩] (h.nodup.filter _) (λx f=>by
   obtain⟨d,c⟩:=List.mem_filter.1 f;have e:=h.leaf x d (by simpa using c);rw[e]
   cases x.leaf<;>simp)
  simpa using this
 have b:=List.length_eq_countP_add_countP (λn:zB=>decide (n.kids=[])) (l:=all);have i:all.countP (λa:zB=>decide ¬(decide (a.kids=[])=true))=inn all:=by unfold inn;congr 1;funext n;simp
 rw[List.countP_eq_length_filter]at b;omega
theorem zVB(g t:List zB):inn (g++t)=inn g+inn t:=by unfold inn;rw[List.countP_append]
theorem zOy(h:zGZ all){n:zB}(k:n.kids=[]->n=⟨n.leaf,0,[],[]⟩):zGZ (zo all n).2/\Rng (zo all n).2 (zo all n).1/\inn (zo all n).2<=inn all+(if n.kids=[]then 0 else 1):=by
 unfold zo;by_cases d:n∈all
 ·rw[if_pos d];have f:=List.idxOf_lt_length_of_mem d;exact⟨h,⟨by simp,by simpa using f⟩,by simp⟩
 ·rw[if_neg d];refine⟨⟨?_,λm g=> ?_⟩,⟨by simp,by simp;omega⟩,?_⟩
  ·rw[List.nodup_append];exact⟨h.nodup,by simp,λa j b i e=>by simp at i;subst i;exact d (e▸j)⟩
  ·rcases List.mem_append.1 g with c|c
   ·exact h.leaf m c
   ·simp at c;subst c;exact k
  ·simp only;rw[zVB];(have:inn [n]=if n.kids=[]then 0 else 1:=by unfold inn;by_cases e:n.kids=[]<;>simp[e]);omega
theorem Rng.pre{g a:List zB}(h:Rng g i)(b:∃t,a=g++t):Rng a i:=by obtain⟨t,rfl⟩:=b;exact h.app t
theorem zQ1(h:zGZ all){ss ks:List Int}(f:∀k∈ks,Rng all k)(a:ks≠[]):zGZ (zAT all i ss ks).2/\Rng (zAT all i ss ks).2 (zAT all i ss ks).1/\inn (zAT all i ss ks).2<=inn all+1:=by
 unfold zAT;split
 ·refine⟨h,f _ (zBU (List.length_pos_iff.2 a)),Nat.le_succ _⟩
 ·obtain⟨b,c,d⟩:=zOy h (n:=⟨false,i,(zR (ks.getD 0 0) ss ks).1,ks.getD 0 0::(zR (ks.getD 0 0) ss ks).2⟩) (λe=>by cases e);exact⟨b,c,by simpa using d⟩
structure WSt (st:GSt):Prop where
 tab:zGZ st.all
 done:∀p∈st.done,Rng st.all p.2
theorem WSt.new:WSt ⟨[],[],false⟩:=⟨zGZ.nil,by simp⟩
theorem zMC(h:WSt st)(b a:Bool):WSt (zBd b a st).2/\Rng (zBd b a st).2.all (zBd b a st).1/\inn (zBd b a st).2.all <=inn st.all:=by
 obtain⟨c,d,e⟩:=zOy h.tab (n:=⟨b,0,[],[]⟩) (λ_=>rfl);exact⟨⟨c,λp f=>(h.done p f).pre (zFt _ _)⟩,d,by show inn (zo st.all ⟨b,0,[],[]⟩).2<=_;simpa using e⟩
theorem zMD{f:Int->GSt->Int × GSt}{B:Nat}(a:∀v st,∃t,(f v st).2.all =st.all++t)(c:∀v st,WSt st->WSt (f v st).2/\Rng (f v st).2.all (f v st).1/\inn (f v st).2.all <=max (inn st.all) B):∀(l:List Int)(st:GSt),WSt st->
  WSt (zQ f l st).2/\(∀k∈(zQ f l st).1,Rng (zQ f l st).2.all k)/\inn (zQ f l st).2.all <=max (inn st.all) B
 |[],st,h=>⟨h,by simp[zQ],Nat.le_max_left _ _⟩
 |v::l,st,h=>by
  obtain⟨d,e,j⟩:=c v st h;obtain⟨g,i,m⟩:=zMD a c l _ d;refine⟨g,λk b=> ?_,?_⟩
  ·rcases List.mem_cons.1 b with rfl|b
   ·exact e.pre (zH7 a l _)
   ·exact i k b
  ·unfold zQ;simp only;omega
theorem zIi{σ:Type}{f:Int->σ->Int × σ}{st:σ}(h:l≠[]):(zQ f l st).1≠[]:=by
 intro e;have:=zC7 (f:=f) l st;rw[e]at this;exact h (List.eq_nil_of_length_eq_zero this.symm)
theorem zME:∀(rest:List zC)(i:Nat)(f:Fm)(st:GSt),WSt st->WSt (zu rest i f st).2/\Rng (zu rest i f st).2.all (zu rest i f st).1/\inn (zu rest i f st).2.all <=max (inn st.all) (4000+rest.length)
 |[],i,f,st,h=>by
  unfold zu;split
  ·obtain⟨a,b,c⟩:=zMC h (decide (f.op=1)) st.full;exact⟨a,b,by omega⟩
  ·obtain⟨a,b,c⟩:=zMC h false (st.full||decide (4000<st.all.length));exact⟨a,b,by omega⟩
 |x::rest,i,f,st,h=>by
  unfold zu;split
  ·obtain⟨a,b,c⟩:=zMC h (decide (f.op=1)) st.full;exact⟨a,b,by omega⟩
  ·split
   ·obtain⟨a,b,c⟩:=zMC h false true;exact⟨a,b,by omega⟩
   ·rename_i hfl;split
    ·rename_i k hk;exact⟨h,h.done _ (zIS hk),Nat.le_max_left _ _⟩
    ·have m:inn st.all<=4000:=by
      have s:inn st.all<=st.all.length:=List.countP_le_length;(have t:¬4000<st.all.length:=λe=>hfl (by rw[decide_eq_true e,Bool.or_true]));omega
     obtain⟨j,q,w⟩:=zMD (f:=λv st=>zu rest (i+1) (zU x.name v f) st) (B:=4000+rest.length) (λv st=>zHD rest _ _ st) (λv st n=>zME rest _ _ st n) (zO f x) st h;obtain⟨o,g,u⟩:=zQ1 j.tab (i:=i) (ss:=zO f x) q (zIi (by simp[zO]));refine⟨⟨o,λp d=> ?_⟩,g,?_⟩
     ·rcases zFb d with d|d
      ·exact(j.done p d).pre (zGS _ _ _ _)
      ·subst d;exact g
     ·simp only[List.length_cons];omega
theorem zUJ{rest:List zC}{i:Nat}(h:WSt st){N:Nat}(d:inn st.all<=N)(e:4000+rest.length<=N):(zu rest i f st).2.all.length <=N+2:=by
 obtain⟨a,b,c⟩:=zME rest i f st h;have:=a.tab.len;omega
theorem zPs(f:Fm)(x:zC):(zO f x).length <=1+2*(zAJ x.name f).length :=by
 have d:∀(l:List Int)(n:Int),(zCr l n).length <=l.length+1:=by
  intro l n
  induction l with
  |nil=>simp[zCr]
  |cons a r ih=>unfold zCr;split<;>(try split)<;>simp<;>omega
 have c:∀(l m:List Int),(l.foldl zCr m).length <=m.length+l.length:=by
  intro l
  induction l with
  |nil=>simp
  |cons a l ih=>intro m;rw[List.foldl_cons];have:=ih (zCr m a);have:=d m a;simp;omega
 unfold zO zEV;have b:=c ((((zAJ x.name f).flatMap λn=>[n,n+1]).filter λn=>decide (x.lo<n)&&decide (n<=x.hi))) []
 have e:((((zAJ x.name f).flatMap λn=>[n,n+1]).filter λn=>decide (x.lo<n)&&decide (n<=x.hi))).length <=2*(zAJ x.name f).length :=by
  refine Nat.le_trans (List.length_filter_le _ _) ?_;generalize zAJ x.name f=l
  induction l with
  |nil=>simp
  |cons a l ih=>rw[List.flatMap_cons,List.length_append];simp at ih⊢;omega
 simp at b⊢;omega
mutual
theorem zOz(nm:ByteArray):∀f:Fm,(zAJ nm f).length <=zG f
 | .mk op n cm nu kids=>by
  have:=zN5 nm kids;rw[zAJ,zG,List.length_append];split<;>simp<;>omega
theorem zN5(nm:ByteArray):∀l:List Fm,(zAF nm l).length <=zM l
 |[]=>by simp[zAF,zM]
 |k::r=>by
  have a:=zOz nm k;have b:=zN5 nm r;rw[zAF,zM,List.length_append];omega
end
mutual
def fitF:Fm->Prop
 | .mk op _ cm nu kids=>I64 op/\I64 cm/\I64 nu/\fitFs kids
def fitFs:List Fm->Prop
 |[]=>True
 |k::r=>fitF k/\fitFs r
end
mutual
theorem zHe:∀f:Fm,zDJ f=true->fitF f->(zAs f).length <=100*zG f
 | .mk op nm cm nu kids,h,hf=>by
  rw[zDJ]at h;rw[fitF]at hf;simp only[Bool.and_eq_true,decide_eq_true_eq]at h;obtain⟨⟨⟨i,j⟩,a⟩,b⟩:=h
  have m:nm.data.toList.length<=24:=by
   split at a
   ·revert a;generalize nm.data.toList=l;intro a
    cases l with
    |nil=>simp
    |cons c r=>unfold zBZ at a;simp only[Bool.and_eq_true,decide_eq_true_eq]at a;simpa using a.2
   ·rw[decide_eq_true_eq]at a;rw[a];simp
  have k:=zMF kids b hf.2.2.2;have d:=Lib.itoa_length_le op hf.1.1 hf.1.2;have e:=Lib.itoa_length_le cm hf.2.1.1 hf.2.1.2;have g:=Lib.itoa_length_le nu hf.2.2.1.1 hf.2.2.1.2;rw[zAs,zG];simp only[List.length_append,List.length_cons,List.length_nil];omega
theorem zMF:∀l:List Fm,zD1 l=true->fitFs l->(zAM l).length <=100*zM l
 |[],_,_=>by simp[zAM]
 |k::r,h,hf=>by
  rw[zD1]at h;rw[fitFs]at hf;simp only[Bool.and_eq_true]at h;have a:=zHe k h.1 hf.1;have b:=zMF r h.2 hf.2;rw[zAM,zM,List.length_append];omega
end
mutual
theorem FmR.fitF{Z:zE}{w:World}:∀(f:Fm)(cs:List Value),FmR Z w f cs->fitF f
 | .mk op nm c n kids,cs,h=>by
  unfold FmR at h;obtain⟨b,_,d,g,A,a,e,_,_,_,i⟩:=h;exact⟨b,d,g,zi.fitFs kids A i⟩
theorem zi.fitFs{Z:zE}{w:World}:∀(l:List Fm)(A:Option Addr),zi Z w l A->fitFs l
 |[],_,_=>trivial
 |k::ks,A,h=>by
  unfold zi at h;obtain⟨b,f,a,e,i,g,c,d⟩:=h;exact⟨FmR.fitF k a c,zi.fitFs ks _ d⟩
end
structure zG0 (st:ASt):Prop where
 tab:zGZ st.all
 done:∀p∈st.done,Rng st.all p.2
theorem zG0.new:zG0 ⟨[],[]⟩:=⟨zGZ.nil,by simp⟩
theorem zMw{f:Int->ASt->Int × ASt}{B:Nat}(a:∀v st,∃t,(f v st).2.all =st.all++t)(c:∀v st,zG0 st->zG0 (f v st).2/\Rng (f v st).2.all (f v st).1/\inn (f v st).2.all <=max (inn st.all) B):∀(l:List Int)(st:ASt),zG0 st->
  zG0 (zQ f l st).2/\(∀k∈(zQ f l st).1,Rng (zQ f l st).2.all k)/\inn (zQ f l st).2.all <=max (inn st.all) B
 |[],st,h=>⟨h,by simp[zQ],Nat.le_max_left _ _⟩
 |v::l,st,h=>by
  obtain⟨d,e,j⟩:=c v st h;obtain⟨g,i,m⟩:=zMw a c l _ d;refine⟨g,λk b=> ?_,?_⟩
  ·rcases List.mem_cons.1 b with rfl|b
   ·exact e.pre (zHn a l _)
   ·exact i k b
  ·unfold zQ;simp only;omega
section both
variable {ds:List zC} {a b:List zB}
theorem zPA(e:Good ds a)(g:Good ds b):∀(k:Nat)(x y:Int)(st:ASt),Rng a x->Rng b y->ds.length-(min (zP ds (nAt a x)) (zP ds (nAt b y))).toNat <k->zG0 st->
  zG0 (zAZ ds a b k x y st).2/\Rng (zAZ ds a b k x y st).2.all (zAZ ds a b k x y st).1/\inn (zAZ ds a b k x y st).2.all <=max (inn st.all) (4000+(ds.length-(min (zP ds (nAt a x)) (zP ds (nAt b y))).toNat))
 |0,_,_,_,_,_,h,_=>by omega
 |k+1,x,y,st,hx,hy,hk,h=>by
  have J:=zFD e hx;have K:=zFD g hy;unfold zAZ
  cases j:kvI st.done (x,y)with
  |some r=>exact⟨h,h.done _ (zIS j),Nat.le_max_left _ _⟩
  |none=>
   simp only;by_cases c:min (zP ds (nAt a x)) (zP ds (nAt b y))=ds.length\/4000<st.all.length
   ·simp only[if_pos c];obtain⟨m,C,D⟩:=zOy h.tab (n:=⟨(nAt a x).leaf &&(nAt b y).leaf,0,[],[]⟩) (λ_=>rfl);exact⟨⟨m,λp d=>(h.done p d).pre (zFt _ _)⟩,C,by simp only[if_true]at D;omega⟩
   ·simp only[if_neg c];have o:min (zP ds (nAt a x)) (zP ds (nAt b y))<ds.length:=by omega
    have E:inn st.all<=4000:=by
     have m:inn st.all<=st.all.length:=List.countP_le_length;omega
    obtain⟨s,H,P⟩:=zMw (f:=λv st=>zAZ ds a b k (zAG a x (min (zP ds (nAt a x)) (zP ds (nAt b y))) v) (zAG b y (min (zP ds (nAt a x)) (zP ds (nAt b y))) v) st) (B:=4000+(ds.length-(min (zP ds (nAt a x)) (zP ds (nAt b y))).toNat)-1)
     (λv st=>zHT ds a b k _ _ st) (λv st F=>by
      obtain⟨t,M⟩:=zEE e (v:=v) hx (Int.min_le_left _ _) o;obtain⟨u,N⟩:=zEE g (v:=v) hy (Int.min_le_right _ _) o;have L:=zFD e t;have A:=zFD g u;obtain⟨w,z,I⟩:=zPA e g k _ _ st t u (by omega) F
      exact⟨w,z,by omega⟩) (zAB ds (nAt a x) (nAt b y)) st h
    obtain⟨G,q,O⟩:=zQ1 s.tab (i:=min (zP ds (nAt a x)) (zP ds (nAt b y))) (ss:=zAB ds (nAt a x) (nAt b y)) H (zIi (by simp[zAB]));refine⟨⟨G,λp d=> ?_⟩,q,?_⟩
    ·rcases zFb d with d|d
     ·exact(s.done p d).pre (zGS _ _ _ _)
     ·subst d;exact q
    ·omega
def zDp(ds:List zC)(a b:List zB):List zB × Int:=
 if zB3 ds a=true/\zB3 ds b=true then
  let r:=zAZ ds a b (ds.length+1) 0 0 ⟨[],[]⟩
  if 4000<r.2.all.length then([],2)else if 4000<(zB2 ds r.2.all r.1).length then([],2)else(zA8 ds r.2.all r.1,0)
 else([],1)
theorem zHU.new{P:List (Int × Int)}:zHU ds a b P ⟨[],[]⟩:=⟨Good.nil ds,by simp,λj c=>by have:=c.1;have:=c.2;simp at*;omega⟩
def zJg(n m:Nat):List (Int × Int):=(List.range n).flatMap λ(i:Nat)=>(List.range m).map λ(j:Nat)=>((i:Int),(j:Int))
theorem zFR{n m:Nat}{p:Int × Int}:p∈zJg n m↔(0<=p.1/\p.1<n)/\0<=p.2/\p.2<m:=by
 unfold zJg;simp only[List.mem_flatMap,List.mem_map,List.mem_range];constructor
 ·rintro⟨i,hi,j,hj,rfl⟩;exact⟨⟨by simp,by simpa using hi⟩,by simp,by simpa using hj⟩
 ·rintro⟨⟨h1,h2⟩,h3,h4⟩;exact⟨p.1.toNat,by omega,p.2.toNat,by omega,Prod.ext (by simp only;omega) (by simp only;omega)⟩
theorem zR9(n m:Nat):(zJg n m).length =n*m:=by
 unfold zJg
 induction n with
 |zero=>simp
 |succ n ih=>rw[List.range_succ,List.flatMap_append,List.length_append,ih,Nat.add_mul];simp
theorem zPB(c:Good ds a){x i v:Int}(b:Rng a x):Rng a (zAG a x i v):=by
 unfold zAG;split
 ·rename_i h;have I:=c.inner b h.1;exact I.rng _ (I.kid_rng v)
 ·exact b
theorem zIj(e:Good ds a)(f:Good ds b):Closed ds a b (zJg a.length b.length):=λp g=>by
 obtain⟨c,d⟩:=zFR.1 g;exact⟨c,d,λv=>zFR.2 ⟨zPB e c,zPB f d⟩⟩
theorem zHG(c:zT ds a)(d:zT ds b):ds.length-(min (zP ds (nAt a 0)) (zP ds (nAt b 0))).toNat <ds.length+1:=by omega
theorem zV1(h:zDp ds a b=(g,0)):zT ds a/\zT ds b/\zT ds g/\∀c,Fit ds c->S ds g 0 c=(S ds a 0 c&&S ds b 0 c):=by
 unfold zDp at h;split at h
 ·rename_i hv;have d:=zCH.1 hv.1;have e:=zCH.1 hv.2;have i:=zFE d.dom;simp only at h;split at h
  ·injection h with _ h;exact absurd h (by decide)
  ·rename_i h1;split at h
   ·injection h with _ h;exact absurd h (by decide)
   ·rename_i h2;injection h with h _;obtain⟨A,F⟩:=zHo i d.good e.good (zIj d.good e.good) (ds.length+1) 0 0 ⟨[],[]⟩ (zFR.2 ⟨d.rng,e.rng⟩) (zHG d e) zHU.new (Or.inr (by omega));subst h;refine⟨d,e,zLC d.dom A.good F.rng (by unfold zA8;rw[List.length_map];omega),λc f=> ?_⟩;rw[zNF A.good F.rng];exact F.says c f
 ·injection h with _ h;exact absurd h (by decide)
theorem zVC(d:zT ds a)(e:zT ds b){P:List (Int × Int)}(h:Closed ds a b P)(g:((0:Int),(0:Int))∈P)(c:P.length<=4000):(zDp ds a b).2=0:=by
 unfold zDp;rw[if_pos ⟨zCH.2 d,zCH.2 e⟩];have f:=zFE d.dom;obtain⟨A,F⟩:=zHo f d.good e.good h (ds.length+1) 0 0 ⟨[],[]⟩ g (zHG d e) zHU.new (Or.inl c);have i:=A.length_le f;simp only;rw[if_neg (by omega),if_neg (by have:=(zDc A.good F.rng).length_le;omega)]
theorem zVD(c:zT ds a)(d:zT ds b)(h:(zDp ds a b).2≠0):(zDp ds a b).1=[]/\(zDp ds a b).2=2/\4000<a.length*b.length:=by
 have e:4000<a.length*b.length:=by
  rcases Nat.lt_or_ge 4000 (a.length*b.length)with h'|h'
  ·exact h'
  ·exact absurd (zVC c d (zIj c.good d.good) (zFR.2 ⟨c.rng,d.rng⟩) (by rw[zR9];exact h')) h
 unfold zDp at h⊢;rw[if_pos ⟨zCH.2 c,zCH.2 d⟩]at h⊢;simp only at h⊢;split
 ·exact⟨rfl,rfl,e⟩
 ·rename_i h1;rw[if_neg h1]at h;split
  ·exact⟨rfl,rfl,e⟩
  ·rename_i h2;rw[if_neg h2]at h;exact absurd rfl h
end both
section
variable {ds:List zC} {a b:List zB}
theorem zVo(b:zT ds a)(c:List Int):S ds (zAC a) 0 c= !S ds a 0 c:=zTg b.good _ 0 b.rng (Nat.le_refl _) c
end
abbrev zAI:=ByteArray × Bool
def zAi:zAI:=(⟨#[]⟩,false)
def zAo(l:zI):zAI:=(l.cls,l.ctl)
def tFm:Fm:= .mk 1 ⟨#[]⟩ 0 0 []
def fFm:Fm:= .mk 2 ⟨#[]⟩ 0 0 []
def zA6(ds:List zC)(e:Int)(f:Fm):List zB × Int:=if e≠0 then([],e)else zC1 ds f
def zAx(ds:List zC)(e:Int)(a b:List zB):List zB × Int:=if e≠0 then([],e)else zDp ds a b
def kvD:List (zAI × List zB)->zAI->Option (List zB)
 |[],_=>none
 |p::r,x=>if x=p.1 then some p.2 else kvD r x
def zC3:List (zAI × List zB)->zAI->List zB->List (zAI × List zB)
 |[],x,v=>[(x,v)]
 |p::r,x,v=>if x=p.1 then(p.1,v)::r else p::zC3 r x v
theorem zHH(x:zAI)(v:List zB):∀l,kvD (zC3 l x v) x=some v
 |[]=>by simp[zC3,kvD]
 |p::r=>by
  unfold zC3;by_cases h:x=p.1
  ·rw[if_pos h,kvD,if_pos h]
  ·rw[if_neg h,kvD,if_neg h];exact zHH x v r
theorem zEv{x y:zAI}(v:List zB)(a:y≠x):∀l,kvD (zC3 l x v) y=kvD l y
 |[]=>by simp[zC3,kvD,a]
 |p::r=>by
  unfold zC3;by_cases h:x=p.1
  ·rw[if_pos h,kvD,kvD,<-h,if_neg a,if_neg a]
  ·rw[if_neg h,kvD,kvD,zEv v a r]
instance decFact:DecidableEq zC:=λa b=>decidable_of_iff (a.name=b.name/\a.kind=b.kind/\a.lo=b.lo/\a.hi=b.hi) (by cases a;cases b;simp)
structure zD7 where
 err:Int
 outs:List zAI
 wh:List (zAI × List zB)
 parts:List (List zB)
 rest:List zB
def atE(ds:List zC)(e:Int)(wh:List (zAI × List zB))(o:zAI):List zB × Int:=match kvD wh o with|some g=>(g,e)|none=>zA6 ds e fFm
def stepG(ds:List zC)(st:zD7)(l:zI):zD7:=
 let g:=zA6 ds st.err l.when_;let part:=zAx ds g.2 st.rest g.1;let x:=atE ds part.2 st.wh (zAo l);let y:=zAx ds x.2 (zAC x.1) (zAC part.1);let z:=zAx ds y.2 st.rest (zAC g.1)
 ⟨z.2,if(kvD st.wh (zAo l)).isSome then st.outs else st.outs++[zAo l],zC3 st.wh (zAo l) (zAC y.1),st.parts++[part.1],z.1⟩
def zHI(ds:List zC):zD7:=⟨(zA6 ds 0 tFm).2,[],[],[],(zA6 ds 0 tFm).1⟩
def zBc(ds:List zC)(ls:List zI):zD7:=ls.foldl (stepG ds) (zHI ds)
def zMx(st:zD7):zD7:=⟨st.err,st.outs++[zAi],zC3 st.wh zAi st.rest,st.parts,st.rest⟩
def ofS(t:zY):zD7:=zMx (zBc t.dom t.lines)
def zBF(t:zY):Option (List Int) × Int:=
 if z7 t=false then(none,1)else if(ofS t).err ≠0 then(none,(ofS t).err)else(zBC t.dom ((kvD (ofS t).wh zAi).getD []),0)
def zAL(ds:List zC):List (List zB)->Nat->List Int
 |[],_=>[]
 |g::r,i=>if(zBC ds g).isSome then zAL ds r (i+1)else(i:Int)::zAL ds r (i+1)
def zBe(t:zY):List Int × Int:=
 if z7 t=false then([],1)else if(ofS t).err ≠0 then([],(ofS t).err)else(zAL t.dom (ofS t).parts 0,0)
def zBt(ds:List zC)(r s:zD7)(st:List zB × Int)(o:zAI):List zB × Int:=
 let x:=atE ds st.2 r.wh o;let y:=atE ds 0 s.wh o;let z:=zAx ds x.2 x.1 y.1
 zAx ds z.2 st.1 (zAC z.1)
def zD8(ds:List zC)(r s:zD7):List zB × Int:=r.outs.foldl (zBt ds r s) (zA6 ds 0 tFm)
def zS(a b:zY):Option (List Int) × Int:=
 if z7 a=false\/z7 b=false\/a.dom≠b.dom then(none,1)
 else if(ofS a).err ≠0\/(ofS b).err ≠0 then(none,max (ofS a).err (ofS b).err)
 else if(zD8 a.dom (ofS a) (ofS b)).2≠0 then(none,(zD8 a.dom (ofS a) (ofS b)).2)
 else(zBC a.dom (zD8 a.dom (ofS a) (ofS b)).1,0)
section
variable {ds:List zC} {f:Fm} {a b:List zB} {e:Int}
theorem zHJ(h:(zA6 ds e f).2=0):e=0/\zT ds (zA6 ds e f).1/\∀c,Fit ds c->S ds (zA6 ds e f).1 0 c=evF ds c f:=by
 unfold zA6 at h⊢;by_cases he:e=0
 ·subst he;rw[if_neg (by simp)]at h⊢;have:=zUA (g:=(zC1 ds f).1) (Prod.ext rfl h);exact⟨rfl,this.1,this.2⟩
 ·rw[if_pos he]at h;exact absurd h he
theorem zJh(h:(zAx ds e a b).2=0):e=0/\zT ds a/\zT ds b/\zT ds (zAx ds e a b).1/\∀c,Fit ds c->S ds (zAx ds e a b).1 0 c=(S ds a 0 c&&S ds b 0 c):=by
 unfold zAx at h⊢;by_cases he:e=0
 ·subst he;rw[if_neg (by simp)]at h⊢;have:=zV1 (g:=(zDp ds a b).1) (Prod.ext rfl h);exact⟨rfl,this.1,this.2.1,this.2.2.1,this.2.2.2⟩
 ·rw[if_pos he]at h;exact absurd h he
theorem zIk(b:zN ds=true)(a:zA5 ds f=0)(he:e=0\/e=2):(zA6 ds e f).2=0\/(zA6 ds e f).2=2:=by
 unfold zA6;rcases he with he|he
 ·subst he;rw[if_neg (by simp)];by_cases h:(zC1 ds f).2=0
  ·exact .inl h
  ·rcases(zSs h).2 with h2|⟨_,h2|h2⟩
   ·exact .inr h2
   ·rw[b]at h2;cases h2
   ·exact absurd a h2
 ·subst he;exact .inr rfl
theorem zJi(c:e=0->zT ds a)(d:e=0->zT ds b)(he:e=0\/e=2):(zAx ds e a b).2=0\/(zAx ds e a b).2=2:=by
 unfold zAx;rcases he with he|he
 ·rw[if_neg (by simp[he])];by_cases h:(zDp ds a b).2=0
  ·exact .inl h
  ·exact .inr (zVD (c he) (d he) h).2.1
 ·subst he;exact .inr rfl
theorem zE8(ds:List zC):zA5 ds tFm=0/\zA5 ds fFm=0:=by
 constructor
 ·have b:zA9 tFm=false:=by decide+kernel
  have a:zBO tFm=true:=by decide+kernel
  unfold zA5;rw[b,if_neg (by simp)];unfold tFm;rw[zw,show zv ds (.mk 1 ⟨#[]⟩ 0 0 [])=0 from by unfold zv;unfold tFm at a;rw[a];simp[Fm.op]];rfl
 ·have b:zA9 fFm=false:=by decide+kernel
  have a:zBO fFm=true:=by decide+kernel
  unfold zA5;rw[b,if_neg (by simp)];unfold fFm;rw[zw,show zv ds (.mk 2 ⟨#[]⟩ 0 0 [])=0 from by unfold zv;unfold fFm at a;rw[a];simp[Fm.op]];rfl
theorem zKR(c:List Int):evF ds c tFm=true:=zEt rfl
theorem zQ2(c:List Int):evF ds c fFm=false:=zEu rfl
theorem zMG(h:zT ds a):zT ds (zAC a)/\∀c,S ds (zAC a) 0 c= !S ds a 0 c:=⟨zEX h,zVo h⟩
end
def zBA(ds:List zC)(c:List Int)(ls:List zI):Option zI:=ls.find? λl=>evF ds c l.when_
def zAe(ds:List zC)(c:List Int)(ls:List zI):Option zAI:=(zBA ds c ls).map zAo
theorem zKm(ds:List zC)(c:List Int)(ls:List zI)(l:zI):zBA ds c (ls++[l])=(zBA ds c ls).or (if evF ds c l.when_=true then some l else none):=by
 unfold zBA;rw[List.find?_append];congr 1;simp only[List.find?];cases evF ds c l.when_<;>rfl
theorem zGd(ds:List zC)(c:List Int)(ls:List zI)(l:zI):zAe ds c (ls++[l])=(zAe ds c ls).or (if evF ds c l.when_=true then some (zAo l)else none):=by
 unfold zAe;rw[zKm];cases zBA ds c ls
 ·cases evF ds c l.when_<;>rfl
 ·rfl
theorem zIl(ds:List zC)(c:List Int)(ls:List zI):(zBA ds c ls).isNone =(zAe ds c ls).isNone :=by
 unfold zAe;cases zBA ds c ls<;>rfl
structure zV2 (ds:List zC) (ls:List zI) (st:zD7):Prop where
 rest:zT ds st.rest/\∀c,Fit ds c->S ds st.rest 0 c=(zBA ds c ls).isNone
 plen:st.parts.length=ls.length
 part:∀i(hi:i<ls.length),zT ds (st.parts.getD i [])/\∀c,Fit ds c->S ds (st.parts.getD i []) 0 c=((zBA ds c (ls.take i)).isNone &&evF ds c ls[i].when_)
 wh:∀o g,kvD st.wh o=some g->zT ds g/\∀c,Fit ds c->S ds g 0 c=decide (zAe ds c ls=some o)
 no:∀o,kvD st.wh o=none->o∉ls.map zAo
structure zJj (ds:List zC) (ls:List zI) (st:zD7):Prop where
 err:st.err=0\/st.err=2
 facts:st.err=0->zV2 ds ls st
 outs:∀o,o∈st.outs↔(kvD st.wh o).isSome =true
 keys:∀o,(kvD st.wh o).isSome =true->o∈ls.map zAo
theorem zJk{ls:List zI}{o:zAI}(h:zAe ds c ls=some o):o∈ls.map zAo:=by
 unfold zAe zBA at h;rw[Option.map_eq_some_iff]at h;obtain⟨l,a,rfl⟩:=h;exact List.mem_map_of_mem (List.mem_of_find?_eq_some a)
theorem zUK(b:zN ds=true):zJj ds [] (zHI ds):=by
 refine⟨zIk b (zE8 ds).1 (.inl rfl),λh=> ?_,λo=>by simp[zHI,kvD],λo h=>by simp[zHI,kvD]at h⟩;obtain⟨-,f,e⟩:=zHJ h;refine⟨⟨f,λc a=> ?_⟩,rfl,λi d=>absurd d (by simp),λo g h=>by simp[zHI,kvD]at h,λo _=>by simp⟩;unfold zHI;rw[e c a,zKR];rfl
theorem zTC(Q:zN ds=true){ls:List zI}{st:zD7}{l:zI}(d:zA5 ds l.when_=0)(h:zJj ds ls st):zJj ds (ls++[l]) (stepG ds st l):=by
 obtain⟨z,A,m,w⟩:=h
 have o1:∀o,o∈(stepG ds st l).outs ↔(kvD (stepG ds st l).wh o).isSome =true:=by
  intro o;simp only[stepG];by_cases n:o=zAo l
  ·subst n;rw[zHH];cases j:(kvD st.wh (zAo l)).isSome
   ·simp
   ·simp[m,j]
  ·rw[zEv _ n];cases j:(kvD st.wh (zAo l)).isSome
   ·simp[m,n]
   ·simp[m]
 have o2:∀o,(kvD (stepG ds st l).wh o).isSome =true->o∈(ls++[l]).map zAo:=by
  intro o;simp only[stepG];by_cases n:o=zAo l
  ·subst n;intro _;simp
  ·rw[zEv _ n];intro h;have:=w o h;simp only[List.map_append,List.mem_append];exact .inl this
 have W:(zA6 ds st.err l.when_).2=0\/(zA6 ds st.err l.when_).2=2:=zIk Q d z;generalize E:zA6 ds st.err l.when_=G at*
 have k:G.2=0->st.err=0/\zT ds G.1/\∀c,Fit ds c->S ds G.1 0 c=evF ds c l.when_:=λh=>by
  have:=zHJ (ds:=ds) (e:=st.err) (f:=l.when_) (by rw[E];exact h);rwa[E]at this
 have R:(zAx ds G.2 st.rest G.1).2=0\/(zAx ds G.2 st.rest G.1).2=2:=zJi (λh=>(A (k h).1).rest.1) (λh=>(k h).2.1) W;generalize H:zAx ds G.2 st.rest G.1=P at*
 have s:P.2=0->G.2=0/\zT ds P.1/\∀c,Fit ds c->S ds P.1 0 c=(S ds st.rest 0 c&&S ds G.1 0 c):=λh=>by
  have:=zJh (ds:=ds) (e:=G.2) (a:=st.rest) (b:=G.1) (by rw[H];exact h);rw[H]at this;exact⟨this.1,this.2.2.2.1,this.2.2.2.2⟩
 have x0:(atE ds P.2 st.wh (zAo l)).2=0\/(atE ds P.2 st.wh (zAo l)).2=2:=by
  unfold atE;split
  ·exact R
  ·exact zIk Q (zE8 ds).2 R
 have t:(atE ds P.2 st.wh (zAo l)).2=0->P.2=0/\zT ds (atE ds P.2 st.wh (zAo l)).1/\∀c,Fit ds c->S ds (atE ds P.2 st.wh (zAo l)).1 0 c=decide (zAe ds c ls=some (zAo l)):=by
  unfold atE;split
  ·rename_i g y;intro h;have hF:=A (k (s h).1).1;exact⟨h,(hF.wh _ _ y).1,(hF.wh _ _ y).2⟩
  ·rename_i y;intro h;obtain⟨x,Z,h3⟩:=zHJ h;refine⟨x,Z,λc d=> ?_⟩;have hF:=A (k (s x).1).1;rw[h3 c d,zQ2,eq_comm,decide_eq_false_iff_not];exact λh=>hF.no _ y (zJk h)
 have aa:atE ds P.2 st.wh (zAo l)=atE ds P.2 st.wh (zAo l):=rfl;generalize hX:atE ds P.2 st.wh (zAo l)=X at*;have y0:(zAx ds X.2 (zAC X.1) (zAC P.1)).2=0\/(zAx ds X.2 (zAC X.1) (zAC P.1)).2=2:=zJi (λh=>zEX (t h).2.1) (λh=>zEX (s (t h).1).2.1) x0;generalize I:zAx ds X.2 (zAC X.1) (zAC P.1)=Y at*
 have v:Y.2=0->X.2=0/\zT ds Y.1/\∀c,Fit ds c->S ds Y.1 0 c=(S ds (zAC X.1) 0 c&&S ds (zAC P.1) 0 c):=λh=>by
  have:=zJh (ds:=ds) (e:=X.2) (a:=zAC X.1) (b:=zAC P.1) (by rw[I];exact h);rw[I]at this;exact⟨this.1,this.2.2.2.1,this.2.2.2.2⟩
 have z0:(zAx ds Y.2 st.rest (zAC G.1)).2=0\/(zAx ds Y.2 st.rest (zAC G.1)).2=2:=zJi (λh=>(A (k (s (t (v h).1).1).1).1).rest.1) (λh=>zEX (k (s (t (v h).1).1).1).2.1) y0;generalize J:zAx ds Y.2 st.rest (zAC G.1)=Zz at*
 have K:Zz.2=0->Y.2=0/\zT ds Zz.1/\∀c,Fit ds c->S ds Zz.1 0 c=(S ds st.rest 0 c&&S ds (zAC G.1) 0 c):=λh=>by
  have:=zJh (ds:=ds) (e:=Y.2) (a:=st.rest) (b:=zAC G.1) (by rw[J];exact h);rw[J]at this;exact⟨this.1,this.2.2.2.1,this.2.2.2.2⟩
 have C:stepG ds st l=⟨Zz.2,if(kvD st.wh (zAo l)).isSome then st.outs else st.outs++[zAo l],zC3 st.wh (zAo l) (zAC Y.1),st.parts++[P.1],Zz.1⟩:=by
  unfold stepG;simp only[E,H,hX,I,J]
 refine⟨by rw[C];exact z0,λh=> ?_,o1,o2⟩;rw[C]at h⊢;replace h:Zz.2=0:=h;obtain⟨hy,vz,sz⟩:=K h;obtain⟨hx,V,sy⟩:=v hy;obtain⟨hp,vx,sx⟩:=t hx;obtain⟨y,U,T⟩:=s hp;obtain⟨he,vg,O⟩:=k y;have F:=A he;refine⟨⟨vz,λc d=> ?_⟩,by simp[F.plen],λi hi=> ?_,λo g j=> ?_,λo j=> ?_⟩
 ·show S ds Zz.1 0 c=_;rw[sz c d,F.rest.2 c d,(zMG vg).2,O c d,zKm];cases zBA ds c ls<;>cases evF ds c l.when_<;>rfl
 ·simp only[List.length_append,List.length_cons,List.length_nil]at hi;by_cases u:i<ls.length
  ·have B:i<st.parts.length:=by rw[F.plen];exact u
   have D:(st.parts++[P.1]).getD i []=st.parts.getD i []:=by
    simp only[List.getD_eq_getElem?_getD];rw[List.getElem?_append_left B]
   show zT ds ((st.parts++[P.1]).getD i [])/\∀c,Fit ds c->S ds ((st.parts++[P.1]).getD i []) 0 c=_;rw[D,List.take_append_of_le_length (Nat.le_of_lt u),List.getElem_append_left u];exact F.part i u
  ·(have L:i=ls.length:=by omega);subst L
   have D:(st.parts++[P.1]).getD ls.length []=P.1:=by
    simp only[List.getD_eq_getElem?_getD];rw[<-F.plen,List.getElem?_append_right (Nat.le_refl _),Nat.sub_self];rfl
   show zT ds ((st.parts++[P.1]).getD ls.length [])/\∀c,Fit ds c->S ds ((st.parts++[P.1]).getD ls.length []) 0 c=_;rw[D];refine⟨U,λc d=> ?_⟩;rw[T c d,F.rest.2 c d,O c d,List.take_append_of_le_length (Nat.le_refl _),List.take_length];simp
 ·replace j:kvD (zC3 st.wh (zAo l) (zAC Y.1)) o=some g:=j;by_cases n:o=zAo l
  ·subst n;rw[zHH]at j;injection j with j;subst j;refine⟨zEX V,λc d=> ?_⟩;rw[(zMG V).2,sy c d,(zMG vx).2,(zMG U).2,sx c d,T c d,F.rest.2 c d,O c d,zGd,zIl]
   cases N:zAe ds c ls with
   |none=>cases evF ds c l.when_<;>simp
   |some q=>cases evF ds c l.when_<;>simp
  ·rw[zEv _ n]at j;refine⟨(F.wh o g j).1,λc d=> ?_⟩;rw[(F.wh o g j).2 c d,zGd];have M:¬zAo l=o:=λe=>n e.symm
   cases N:zAe ds c ls with
   |none=>cases evF ds c l.when_<;>simp[M]
   |some q=>cases evF ds c l.when_<;>simp
 ·replace j:kvD (zC3 st.wh (zAo l) (zAC Y.1)) o=none:=j;by_cases n:o=zAo l
  ·subst n;rw[zHH]at j;cases j
  ·rw[zEv _ n]at j;simp only[List.map_append,List.mem_append,List.map_cons,List.map_nil,List.mem_singleton];rintro(x|x)
   ·exact F.no o j x
   ·exact n x
theorem zMH{ds:List zC}(b:zN ds=true):∀(a ls:List zI)(st:zD7),(∀l∈a,zA5 ds l.when_=0)->zJj ds ls st->zJj ds (ls++a) (a.foldl (stepG ds) st)
 |[],ls,st,_,h=>by simpa using h
 |l::r,ls,st,hc,h=>by
  have:=zMH b r (ls++[l]) (stepG ds st l) (λx c=>hc x (by simp[c])) (zTC b (hc l (by simp)) h);simpa using this
structure VT (t:zY):Prop where
 dom:zN t.dom=true
 ne:0<t.lines.length
 le:t.lines.length<=100
 ok:∀l∈t.lines,zCf l.cls=true/\zA5 t.dom l.when_=0
theorem zAj{t:zY}:z7 t=true↔VT t:=by
 unfold z7;simp only[Bool.and_eq_true,decide_eq_true_eq,List.all_eq_true];constructor
 ·rintro⟨⟨⟨h1,h2⟩,h3⟩,h4⟩;exact⟨h1,h2,h3,λl a=>by have:=h4 l a;unfold zFQ at this;simpa using this⟩
 ·rintro⟨h1,h2,h3,h4⟩;exact⟨⟨⟨h1,h2⟩,h3⟩,λl a=>by unfold zFQ;simpa using h4 l a⟩
theorem VT.key{t:zY}(h:VT t){l:zI}(c:l∈t.lines):zAo l≠zAi:=λe=>by
 have a:=(h.ok l c).1;have b:l.cls=⟨#[]⟩:=congrArg Prod.fst e;rw[b]at a;exact absurd a (by decide+kernel)
def zBL(t:zY)(c:List Int):zAI:=(zAe t.dom c t.lines).getD zAi
theorem VT.outC_none{t:zY}(h:VT t):zBL t c=zAi↔zAe t.dom c t.lines=none:=by
 unfold zBL
 cases b:zAe t.dom c t.lines with
 |none=>simp
 |some o=>
  obtain⟨l,a,rfl⟩:=List.mem_map.1 (zJk b);simp[h.key a]
structure zVy (t:zY):Prop where
 rest:zT t.dom ((kvD (ofS t).wh zAi).getD [])/\∀c,Fit t.dom c->S t.dom ((kvD (ofS t).wh zAi).getD []) 0 c=decide (zAe t.dom c t.lines=none)
 plen:(ofS t).parts.length =t.lines.length
 part:∀i(hi:i<t.lines.length),zT t.dom ((ofS t).parts.getD i [])/\∀c,Fit t.dom c->S t.dom ((ofS t).parts.getD i []) 0 c=((zBA t.dom c (t.lines.take i)).isNone &&evF t.dom c t.lines[i].when_)
 wh:∀o g,kvD (ofS t).wh o=some g->zT t.dom g/\∀c,Fit t.dom c->S t.dom g 0 c=decide (zBL t c=o)
 outs:∀o,o∈(ofS t).outs ↔(kvD (ofS t).wh o).isSome =true
 has:∀c,zBL t c∈(ofS t).outs
theorem zEB{t:zY}(h:VT t):((ofS t).err =0\/(ofS t).err =2)/\((ofS t).err =0->zVy t):=by
 have I:=zMH h.dom t.lines [] (zHI t.dom) (λl s=>(h.ok l s).2) (zUK h.dom);rw[List.nil_append]at I;obtain⟨n,x,k,j⟩:=I;refine⟨n,λhe=> ?_⟩;have F:=x he
 have y:kvD (zBc t.dom t.lines).wh zAi=none:=by
  cases b:kvD (zBc t.dom t.lines).wh zAi with
  |none=>rfl
  |some g=>
   have:=j zAi (by show(kvD (zBc t.dom t.lines).wh zAi).isSome =true;rw[b];rfl);obtain⟨l,s,e⟩:=List.mem_map.1 this;exact absurd e (h.key s)
 have d:kvD (ofS t).wh zAi=some (zBc t.dom t.lines).rest :=by unfold ofS zMx;exact zHH _ _ _
 have m:∀o,o≠zAi->kvD (ofS t).wh o=kvD (zBc t.dom t.lines).wh o:=λo a=>by unfold ofS zMx;exact zEv _ a _
 have u:∀c,Fit t.dom c->S t.dom (zBc t.dom t.lines).rest 0 c=decide (zAe t.dom c t.lines=none):=λc f=>by
  have:=F.rest.2 c f;rw[zIl]at this;refine this.trans ?_;cases zAe t.dom c t.lines<;>simp
 have i:∀o,o∈(ofS t).outs ↔(kvD (ofS t).wh o).isSome =true:=λo=>by
  by_cases a:o=zAi
  ·subst a;rw[d];simp[ofS,zMx]
  ·rw[m o a];refine Iff.trans ?_ (k o);simp[ofS,zMx,a,zBc]
 refine⟨by rw[d];exact⟨F.rest.1,u⟩,F.plen,F.part,λo g b=> ?_,i,λc=> ?_⟩
 ·by_cases a:o=zAi
  ·subst a;rw[d]at b;injection b with b;subst b;refine⟨F.rest.1,λc f=> ?_⟩;rw[u c f,decide_eq_decide];exact h.outC_none.symm
  ·rw[m o a]at b;refine⟨(F.wh o g b).1,λc f=> ?_⟩;rw[(F.wh o g b).2 c f,decide_eq_decide];unfold zBL
   cases zAe t.dom c t.lines with
   |none=>simp;exact λe=>a e.symm
   |some q=>simp
 ·rw[i];by_cases f:zAe t.dom c t.lines=none
  ·rw[h.outC_none.2 f,d];rfl
  ·obtain⟨o,a⟩:=Option.ne_none_iff_exists'.1 f;(have v:zBL t c=o:=by unfold zBL;rw[a];rfl);rw[v];have w:=zJk a;obtain⟨l,s,e⟩:=List.mem_map.1 w;rw[m o (e▸h.key s)]
   cases b:kvD (zBc t.dom t.lines).wh o with
   |none=>exact absurd w (F.no o b)
   |some g=>rfl
abbrev Flt:=Int × Int
def zKS:ByteArray:=⟨#[102,108,97,103]⟩
def zGi:ByteArray:=⟨#[110,117,109,98,101,114]⟩
def bTo:ByteArray:=⟨#[116,111]⟩
def zRa:ByteArray:=⟨#[59]⟩
def za:ByteArray:=⟨#[]⟩
def zRb:ByteArray:=⟨#[110,111,116]⟩
def zRc:ByteArray:=⟨#[116,114,117,101]⟩
def zPC:ByteArray:=⟨#[102,97,108,115,101]⟩
def bOr:ByteArray:=⟨#[111,114]⟩
def zE1:ByteArray:=⟨#[97,110,100]⟩
def zKT:ByteArray:=⟨#[40]⟩
def zDX:ByteArray:=⟨#[41]⟩
def zV3:ByteArray:=⟨#[102,97,99,116,115]⟩
def zV4:ByteArray:=⟨#[123]⟩
def zV5:ByteArray:=⟨#[125]⟩
def zJl:ByteArray:=⟨#[99,108,97,115,115]⟩
def zDm:ByteArray:=⟨#[99,111,110,116,114,111,108,108,101,100]⟩
def zUj:ByteArray:=⟨#[119,104,101,110]⟩
def zB7(fin k:Int)(tx:ByteArray):List Tok->Except Flt (Tok × List Tok)
 |[]=> .error (6,fin)
 |t::r=>if t.kind≠k\/(tx≠za/\t.text≠tx)then .error (5,t.pos)else .ok (t,r)
def chk(bad:Bool)(e:Int)(t:Tok):Except Flt Unit:=if bad then .error (e,t.pos)else .ok ()
def zEP(s:ByteArray):Int:=if s=zKS then 1 else if s=zGi then 2 else 0
def zj{α β:Type}(x:Except Flt α)(f:α->Except Flt β):Except Flt β:=match x with
 | .error e=> .error e
 | .ok a=>f a
def zMI(fin:Int)(ts:List Tok):Except Flt ((Int × Int) × List Tok):=
 zj (zB7 fin 2 za ts) λlo=>
 zj (chk (decide (1000000<lo.1.num)) 10 lo.1) λ_=>
 zj (zB7 fin 1 bTo lo.2) λt=>
 zj (zB7 fin 2 za t.2) λhi=>
 zj (chk (decide (1000000<hi.1.num)||decide (hi.1.num<lo.1.num)) 10 hi.1) λ_=> .ok ((lo.1.num,hi.1.num),hi.2)
def zFS(fin:Int)(k:Int)(ts:List Tok):Except Flt ((Int × Int) × List Tok):=if k=1 then .ok ((0,1),ts)else zMI fin ts
def zKU(fin:Int)(d:List zC)(ts:List Tok):Except Flt (zC × List Tok):=
 zj (zB7 fin 1 za ts) λnm=>
 zj (chk (decide (0<=zA1 d nm.1.text)) 9 nm.1) λ_=>
 zj (chk (decide (d.length=60)) 2 nm.1) λ_=>
 zj (zB7 fin 1 za nm.2) λwd=>
 zj (chk (decide (zEP wd.1.text=0)) 5 wd.1) λ_=>
 zj (zFS fin (zEP wd.1.text) wd.2) λp=>
 zj (zB7 fin 4 zRa p.2) λz=> .ok (⟨nm.1.text,zEP wd.1.text,p.1.1,p.1.2⟩,z.2)
def zFT(fin:Int):Nat->List zC->List Tok->Except Flt (List zC)
 |0,d,_=> .ok d
 |n+1,d,ts=>match ts with
  |[]=> .ok d
  |t::r=>zj (zKU fin d (t::r)) λx=>zFT fin n (d++[x.1]) x.2
def zBB(s:ByteArray):List zC × Int × Int:=
 if(zJ s).2.1≠0 then([],(zJ s).2.1,(zJ s).2.2)else
  match zFT s.size ((zJ s).1.length +1) [] (zJ s).1 with
  | .error e=>([],e.1,e.2)
  | .ok d=>(d,0,0)
structure PSt where
 toks:List Tok
 err:Int
 pos:Int
def zFm:Fm:= .mk 0 za 0 0 []
def zAQ(st:PSt)(e p:Int):PSt:=if st.err=0 then⟨[],e,p⟩else st
def zBQ(fin:Int)(st:PSt):Tok × PSt:=match st.toks with
 |[]=>(zCY,zAQ st 6 fin)
 |t::r=>(t,⟨r,st.err,st.pos⟩)
def zCv(word:ByteArray)(part:PSt->Fm × PSt):Nat->PSt->List Fm->List Fm × PSt
 |0,st,acc=>(acc,st)
 |n+1,st,acc=>match st.toks with
  |[]=>(acc,st)
  |t::r=>if t.kind=1/\t.text=word then zCv word part n (part ⟨r,st.err,st.pos⟩).2 (acc++[(part ⟨r,st.err,st.pos⟩).1])else(acc,st)
def zOT(op:Int)(l:List Fm):Fm:=match l with
 |[k]=>k
 |l=> .mk op za 0 0 l
def zAk(op:Int)(word:ByteArray)(part:PSt->Fm × PSt)(n:Nat)(st:PSt):Fm × PSt:=
 (zOT op (zCv word part n (part st).2 [(part st).1]).1,(zCv word part n (part st).2 [(part st).1]).2)
def zCk(s:ByteArray):Int:=Lib.idxOfS [za,⟨#[61]⟩,⟨#[33,61]⟩,⟨#[60]⟩,⟨#[60,61]⟩,⟨#[62]⟩,⟨#[62,61]⟩] s
def zIm(fin:Int)(word:ByteArray)(st:PSt):Fm × PSt:=
 let t:=zBQ fin st;let s1:=if t.1.kind≠4\/zCk t.1.text<1 then zAQ t.2 5 t.1.pos else t.2
 let n:=zBQ fin s1;let s2:=if n.1.kind≠2 then zAQ n.2 5 n.1.pos else n.2
 let s3:=if 1000000<n.1.num then zAQ s2 10 n.1.pos else s2
 (.mk 3 word (zCk t.1.text) n.1.num [],s3)
def zHf(t:Tok):ByteArray:=if t.kind=1 then t.text else za
def zB4(fin:Int):Nat->PSt->Fm × PSt
 |0,st=>(zFm,st)
 |n+1,st=>
  let t:=zBQ fin st;let w:=zHf t.1
  if w=zRb then(.mk 4 za 0 0 [(zB4 fin n t.2).1],(zB4 fin n t.2).2)
  else if w=zRc then(tFm,t.2)
  else if w=zPC then(fFm,t.2)
  else if t.1.kind=4/\t.1.text=zKT then
   let f:=zAk 6 bOr (zAk 5 zE1 (zB4 fin n) n) n t.2;let c:=zBQ fin f.2
   (f.1,if c.1.kind≠4\/c.1.text≠zDX then zAQ c.2 5 c.1.pos else c.2)
  else if w=za\/zGX w=true then(zFm,zAQ t.2 5 t.1.pos)
  else zIm fin w t.2
def zB8(fin:Int)(n:Nat):PSt->Fm × PSt:=zAk 6 bOr (zAk 5 zE1 (zB4 fin n) n) n
def zAW(s:ByteArray):Fm × Int × Int:=
 if(zJ s).2.1≠0 then(zFm,(zJ s).2.1,(zJ s).2.2)else
  let f:=zB8 s.size ((zJ s).1.length +1) ⟨(zJ s).1,0,0⟩;let s1:=match f.2.toks with|[]=>f.2|t::_=>zAQ f.2 5 t.pos
  let s2:=if s1.err=0/\zA9 f.1=true then zAQ s1 2 (-1)else s1
  if s2.err≠0 then(zFm,s2.err,s2.pos)else(f.1,0,0)
def zCw(k:Int)(tx:ByteArray)(t:Tok):Bool:=decide (t.kind=k)&&(decide (tx=za)||decide (t.text=tx))
def zAr(fin k:Int)(tx:ByteArray):List Tok->Except Flt (Tok × List Tok)
 |[]=> .error (6,fin)
 |t::r=>if zCw k tx t=true then .ok (t,r)else .error (5,t.pos)
def zEe(sym:ByteArray)(ts:List Tok):List Tok:=ts.dropWhile λt=> !zCw 4 sym t
def zFU(fin:Int)(ts:List Tok):Int:=match ts with|[]=>fin|t::_=>t.pos
def zC4{α:Type}(s:ByteArray)(sym:ByteArray)(parse:ByteArray->α × Int × Int)(from_:Tok)(ts:List Tok):Except Flt (α × List Tok):=
 let r:=zEe sym ts;let b:=from_.pos+from_.text.size;let x:=parse (s.extract b.toNat (zFU s.size r).toNat)
 if x.2.1=6/\r.isEmpty=false then .error (5,zFU s.size r)
 else if x.2.1≠0/\x.2.2<0 then .error (x.2.1,x.2.2)
 else if x.2.1≠0 then .error (x.2.1,IntKind.i64.wrap (b+x.2.2))
 else .ok (x.1,r)
def zCl(k:Int)(tx:ByteArray)(ts:List Tok):Bool:=match ts with
 |[]=>false
 |t::_=>zCw k tx t
def zFV(s:ByteArray)(d:List zC)(ts:List Tok):Except Flt (zI × List Tok):=
 zj (zAr s.size 1 za ts) λcl=>
 zj (zAr s.size 1 zUj (if zCl 1 zDm cl.2 then cl.2.tail else cl.2)) λwh=>
 zj (zC4 s zRa zAW wh.1 wh.2) λf=>
 zj (chk (decide (zA5 d f.1≠0)) (zA5 d f.1) wh.1) λ_=>
 zj (zAr s.size 4 zRa f.2) λz=> .ok (⟨f.1,cl.1.text,zCl 1 zDm cl.2⟩,z.2)
def zDh(s:ByteArray)(d:List zC):Nat->List zI->List Tok->Except Flt (List zI)
 |0,ls,_=> .ok ls
 |n+1,ls,ts=>if ls.isEmpty=false/\ts.isEmpty=true then .ok ls else
  zj (zAr s.size 1 zJl ts) λcl=>
  zj (chk (decide (ls.length=100)) 2 cl.1) λ_=>
  zj (zFV s d cl.2) λl=>zDh s d n (ls++[l.1]) l.2
def zLZ(s:ByteArray)(ts:List Tok):Except Flt zY:=
 zj (zAr s.size 1 zV3 ts) λa=>
 zj (zAr s.size 4 zV4 a.2) λo=>
 zj (zC4 s zV5 zBB o.1 o.2) λd=>
 zj (zAr s.size 4 zV5 d.2) λc=>
 zj (zDh s d.1 (c.2.length+2) [] c.2) λls=> .ok ⟨d.1,ls⟩
def zCg(s:ByteArray):zY × Int × Int:=
 if(zJ s).2.1≠0 then(⟨[],[]⟩,(zJ s).2.1,(zJ s).2.2)else
  match zLZ s (zJ s).1 with
  | .error e=>(⟨[],[]⟩,e.1,e.2)
  | .ok t=>(t,0,0)
def bSp:List UInt8:=[32]
def zHK(n:Int):ByteArray:=⟨(Lib.itoa n).toArray⟩
def zDQ(l:List ByteArray)(sep:List UInt8):ByteArray:=⟨(Lib.join (l.map λs=>s.data.toList) sep).toArray⟩
def zCC(f:zC):List ByteArray:=if f.kind=1 then[f.name,zKS]else[f.name,zGi,zHK f.lo,bTo,zHK f.hi]
def bNl:ByteArray:=⟨#[59,10]⟩
def zFW(f:zC):ByteArray:=zDQ (zCC f) bSp++bNl
def zPD(ds:List zC):ByteArray:=ds.foldl (λb f=>b++zFW f) za
def zFz(ds:List zC):ByteArray:=if zN ds=true then zPD ds else za
def zJm:List ByteArray:=[za,⟨#[61]⟩,⟨#[33,61]⟩,⟨#[60]⟩,⟨#[60,61]⟩,⟨#[62]⟩,⟨#[62,61]⟩]
def zVp:ByteArray:=⟨#[110,111,116,32]⟩
def zUk(op:Int)(k:Int):Bool:=decide (k=6)||(decide (k=5)&&decide (op≠6))
mutual
def zBM:Fm->ByteArray
 | .mk op nm cm nu kids=>
  if op=1 then zRc else if op=2 then zPC
  else if op=3 then nm++⟨#[32]⟩++zJm.getD cm.toNat za++⟨#[32]⟩++zHK nu
  else if op=4 then zVp++(zHL op kids).getD 0 za
  else if op=5 then zDQ (zHL op kids) [32,97,110,100,32]
  else zDQ (zHL op kids) [32,111,114,32]
def zHL(op:Int):List Fm->List ByteArray
 |[]=>[]
 |k::r=>(if zUk op k.op=true then zKT++zBM k++zDX else zBM k)::zHL op r
end
def zIA(f:Fm):Int:=if zBO f=false\/(f.op=3/\(f.num<0\/1000000<f.num\/zGX f.name=true))then 1 else 0
def zGJ(f:Fm):ByteArray × Int:=if zA9 f=true\/zw zIA f≠0 then(za,1)else(zBM f,0)
def zDY(l:zI):List ByteArray:=[zJl,l.cls]++(if l.ctl then[zDm]else[])++[zUj,(zGJ l.when_).1]
def zGe(l:zI):ByteArray:=zDQ (zDY l) bSp++bNl
def zUl:ByteArray:=⟨#[102,97,99,116,115,32,123,10]⟩
def zUm:ByteArray:=⟨#[125,10]⟩
def zHM(t:zY):ByteArray:=t.lines.foldl (λb l=>b++zGe l) (zUl++zFz t.dom++zUm)
def zMJ(t:zY):ByteArray × Int:=if z7 t=false then(za,1)else if(zJ (zHM t)).2.1≠0 then(za,2)else(zHM t,0)
def zEQ:ByteArray:=⟨#[102,97,99,116,115,32,123,10,119,101,105,103,104,116,32,110,117,109,98,101,114,32,48,32,116,111,32,49,53,48,59,10,109,105,108,105,116,97,114,121,32,102,108,97,103,59,10,125,10,99,108,97,115,115,32,97,49,32,99,111,110,116,114,111,108,108,101,100,32,119,104,101,110,32,119,101,105,103,104,116,32,62,61,32,49,48,48,32,97,110,100,32,109,105,108,105,116,97,114,121,32,61,32,49,59,10,99,108,97,115,115,32,98,50,32,99,111,110,116,114,111,108,108,101,100,32,119,104,101,110,32,109,105,108,105,116,97,114,121,32,61,32,49,59,10,99,108,97,115,115,32,99,51,32,119,104,101,110,32,119,101,105,103,104,116,32,60,32,53,48,59,10]⟩
def zMK:ByteArray:=⟨#[102,97,99,116,115,32,123,10,119,101,105,103,104,116,32,110,117,109,98,101,114,32,48,32,116,111,32,49,53,48,59,10,109,105,108,105,116,97,114,121,32,102,108,97,103,59,10,125,10,99,108,97,115,115,32,97,49,32,99,111,110,116,114,111,108,108,101,100,32,119,104,101,110,32,119,101,105,103,104,116,32,62,61,32,49,48,48,32,97,110,100,32,109,105,108,105,116,97,114,121,32,61,32,49,59,10,99,108,97,115,115,32,98,50,32,99,111,110,116,114,111,108,108,101,100,32,119,104,101,110,32,109,105,108,105,116,97,114,121,32,61,32,49,59,10,99,108,97,115,115,32,99,51,32,119,104,101,110,32,119,101,105,103,104,116,32,60,32,53,48,59,10,99,108,97,115,115,32,97,49,32,119,104,101,110,32,119,101,105,103,104,116,32,62,32,49,49,48,32,97,110,100,32,109,105,108,105,116,97,114,121,32,61,32,49,59]⟩
def zOU:ByteArray:=⟨#[102,97,99,116,115,32,123,32,97,32,102,108,97,103,59,32,125,32,99,108,97,115,115,32,120,32,119,104,101,110,32,98,32,61,32,49,59]⟩
theorem zII(d:Array Int)(g:∀i j,i<=j->j<d.size->d[i]! <=d[j]!):∀m,m<=d.size->(Lib.compactUpTo d m).Pairwise (· < ·)/\∀v,v∈Lib.compactUpTo d m↔∃j,j<m/\d[j]! =v
 |0,_=>by simp[Lib.compactUpTo]
 |m+1,hm=>by
  obtain⟨k,f⟩:=zII d g m (by omega);rw[Lib.compactUpTo_succ];by_cases c:Lib.keeps d m=true
  ·rw[if_pos c];refine⟨List.pairwise_append.2 ⟨k,by simp,λa o b n=> ?_⟩,λv=> ?_⟩
   ·rw[List.mem_singleton]at n;subst n;obtain⟨j,e,rfl⟩:=(f a).1 o;have q:=g j (m-1) (by omega) (by omega);have s:=g (m-1) m (by omega) (by omega);unfold Lib.keeps at c;simp at c;omega
   ·rw[List.mem_append,f,List.mem_singleton];constructor
    ·rintro(⟨j,e,rfl⟩|rfl)
     ·exact⟨j,by omega,rfl⟩
     ·exact⟨m,by omega,rfl⟩
    ·rintro⟨j,e,rfl⟩;by_cases h:j=m
     ·subst h;exact Or.inr rfl
     ·exact Or.inl ⟨j,by omega,rfl⟩
  ·rw[if_neg c,List.append_nil];refine⟨k,λv=> ?_⟩;rw[f];unfold Lib.keeps at c;simp at c;constructor
   ·rintro⟨j,e,rfl⟩;exact⟨j,by omega,rfl⟩
   ·rintro⟨j,e,rfl⟩;by_cases h:j=m
    ·subst h;exact⟨j-1,by omega,by omega⟩
    ·exact⟨j,by omega,rfl⟩
theorem zJn(d:l.Pairwise (· <= ·)):(Lib.compact l).Pairwise (· < ·)/\∀v,v∈Lib.compact l↔v∈l:=by
 have h:=zII l.toArray (λi j c a=>by
  have b:j<l.length:=by simpa using a
  rw[getElem!_pos l.toArray i (by simp;omega),getElem!_pos l.toArray j a];simp only[List.getElem_toArray];rcases Nat.lt_or_ge i j with h|h
  ·exact List.pairwise_iff_getElem.1 d i j (by omega) b h
  ·obtain rfl:i=j:=by omega
   exact Int.le_refl _) l.length (by simp)
 refine⟨h.1,λv=>(h.2 v).trans ⟨?_,λe=> ?_⟩⟩
 ·rintro⟨j,a,rfl⟩;rw[getElem!_pos l.toArray j (by simpa using a)];simp
 ·obtain⟨j,a,rfl⟩:=List.getElem_of_mem e;exact⟨j,a,by rw[getElem!_pos l.toArray j (by simpa using a)];simp⟩
theorem zFX{hi:Int}:∀{l:List Int}{lo:Int},(lo::l).Pairwise (· < ·)->(∀v∈l,v<=hi)->zy lo hi l
 |[],_,_,_=>trivial
 |a::r,lo,h,hh=>by
  rw[List.pairwise_cons]at h;exact⟨h.1 a (by simp),hh a (by simp),zFX h.2 λv b=>hh v (by simp[b])⟩
theorem zRd{x:zC}(w:x.lo<=x.hi)(p:Int->Bool)(t:∀n,p n=true↔n<x.lo\/x.hi<n):
  Lib.compact ((((x.lo::(zAJ x.name f).flatMap λn=>[n,n+1]).mergeSort λa b=>decide (a<=b))).filter λn=> !p n)=zO f x:=by
 generalize u:((zAJ x.name f).flatMap λn=>[n,n+1])=q
 have g:((x.lo::q).mergeSort λa b=>decide (a<=b)).Pairwise (· <= ·):=by
  have:=List.pairwise_mergeSort (le:=λa b:Int=>decide (a<=b)) (λa b c i m=>by simp at i m⊢;omega) (λa b=>by simp;omega) (x.lo::q);exact this.imp λh=>by simpa using h
 obtain⟨i,m⟩:=zJn (g.filter λn=> !p n);generalize Lib.compact (((x.lo::q).mergeSort λa b=>decide (a<=b)).filter λn=> !p n)=L at*
 have d:∀v,v∈L↔(v=x.lo\/v∈q)/\x.lo<=v/\v<=x.hi:=λv=>by
  rw[m,List.mem_filter,List.mem_mergeSort,List.mem_cons];have:=t v;cases k:p v
  ·rw[k]at this;simp at this⊢;omega
  ·rw[k]at this;simp at this⊢;omega
 have j:x.lo∈L:=(d _).2 ⟨Or.inl rfl,Int.le_refl _,w⟩
 cases L with
 |nil=>simp at j
 |cons a r=>
  rw[List.pairwise_cons]at i
  have s:a=x.lo:=by
   have:=((d a).1 (by simp)).2.1;rcases List.mem_cons.1 j with h|h
   ·exact h.symm
   ·have:=i.1 _ h;omega
  subst s;unfold zO;rw[u];congr 1;refine zK0 (zFX (lo:=x.lo) (hi:=x.hi) (List.pairwise_cons.2 i) λv e=>((d v).1 (by simp[e])).2.2) (zGR λv e=>by simpa using(List.mem_filter.1 e).2) λv=> ?_
  rw[zGQ,List.mem_filter];constructor
  ·intro e;have o:=(d v).1 (by simp[e]);have y:=i.1 v e;rcases o.1 with h|h
   ·omega
   ·exact⟨h,by simp;omega⟩
  ·rintro⟨e,o⟩;simp at o;rcases List.mem_cons.1 ((d v).2 ⟨Or.inr e,by omega,by omega⟩)with h|h
   ·omega
   ·exact h
theorem zD2(st:PSt)(e p:Int):(zAQ st e p).toks.length <=st.toks.length:=by
 unfold zAQ;split<;>simp
theorem zEw(fin:Int)(st:PSt):(zBQ fin st).2.toks.length <=st.toks.length:=by
 obtain⟨a,e,p⟩:=st
 cases a with
 |nil=>exact zD2 _ _ _
 |cons t r=>show r.length<=r.length+1;omega
theorem zN6{word:ByteArray}{part:PSt->Fm × PSt}(a:∀st,(part st).2.toks.length <=st.toks.length):∀(n:Nat)(st:PSt)(acc:List Fm),(zCv word part n st acc).2.toks.length <=st.toks.length
 |0,_,_=>Nat.le_refl _
 |n+1,⟨[],e,p⟩,acc=>Nat.le_refl _
 |n+1,⟨t::r,e,p⟩,acc=>by
  simp only[zCv];split
  ·have c:=zN6 (word:=word) a n (part ⟨r,e,p⟩).2 (acc++[(part ⟨r,e,p⟩).1]);have b:=a ⟨r,e,p⟩;simp only[List.length_cons]at b⊢;omega
  ·exact Nat.le_refl _
theorem zHg{part:PSt->Fm × PSt}(a:∀st,(part st).2.toks.length <=st.toks.length)(n:Nat)(st:PSt):(zAk op word part n st).2.toks.length <=st.toks.length:=
 Nat.le_trans (zN6 a n _ _) (a st)
theorem zN7(fin:Int)(word:ByteArray)(st:PSt):(zIm fin word st).2.toks.length <=st.toks.length:=by
 have a:=zEw fin st;unfold zIm;simp only;generalize zBQ fin st=t at*
 have e:(if t.1.kind≠4\/zCk t.1.text<1 then zAQ t.2 5 t.1.pos else t.2).toks.length <=st.toks.length:=by
  split
  ·exact Nat.le_trans (zD2 _ _ _) a
  ·exact a
 generalize (if t.1.kind≠4\/zCk t.1.text<1 then zAQ t.2 5 t.1.pos else t.2)=d at*;have b:=Nat.le_trans (zEw fin d) e;generalize zBQ fin d=n at*
 have c:(if n.1.kind≠2 then zAQ n.2 5 n.1.pos else n.2).toks.length <=st.toks.length:=by
  split
  ·exact Nat.le_trans (zD2 _ _ _) b
  ·exact b
 generalize (if n.1.kind≠2 then zAQ n.2 5 n.1.pos else n.2)=f at*;split
 ·exact Nat.le_trans (zD2 _ _ _) c
 ·exact c
theorem zFl(fin:Int):∀(n:Nat)(st:PSt),(zB4 fin n st).2.toks.length <=st.toks.length
 |0,_=>Nat.le_refl _
 |n+1,st=>by
  have a:=zEw fin st;simp only[zB4];generalize zBQ fin st=t at*;split
  ·exact Nat.le_trans (zFl fin n t.2) a
  ·split
   ·exact a
   ·split
    ·exact a
    ·split
     ·have b:=zHg (op:=6) (word:=bOr) (part:=zAk 5 zE1 (zB4 fin n) n) (zHg (zFl fin n) n) n t.2;generalize zAk 6 bOr (zAk 5 zE1 (zB4 fin n) n) n t.2=f at*;have d:=zEw fin f.2;generalize zBQ fin f.2=c at*;split
      ·have:=zD2 c.2 5 c.1.pos;show(zAQ c.2 5 c.1.pos).toks.length <=st.toks.length;omega
      ·show c.2.toks.length<=st.toks.length;omega
     ·split
      ·have:=zD2 t.2 5 t.1.pos;exact Nat.le_trans this a
      ·exact Nat.le_trans (zN7 fin _ t.2) a
theorem zML:∀a b:List Fm,zM (a++b)=zM a+zM b
 |[],b=>by simp[zM]
 |x::a,b=>by rw[List.cons_append,zM,zM,zML a b,Nat.add_assoc]
def SzP(part:PSt->Fm × PSt):Prop:=∀st,zG (part st).1+2*(part st).2.toks.length <=1+2*st.toks.length
theorem zPE{word:ByteArray}{part:PSt->Fm × PSt}(b:SzP part):∀(n:Nat)(st:PSt)(acc:List Fm),
  zM (zCv word part n st acc).1+(zCv word part n st acc).1.length +2*(zCv word part n st acc).2.toks.length <=zM acc+acc.length+2*st.toks.length/\acc.length<=(zCv word part n st acc).1.length
 |0,_,_=>⟨Nat.le_refl _,Nat.le_refl _⟩
 |n+1,⟨[],e,p⟩,acc=>⟨Nat.le_refl _,Nat.le_refl _⟩
 |n+1,⟨t::r,e,p⟩,acc=>by
  simp only[zCv];split
  ·have a:=zPE (word:=word) b n (part ⟨r,e,p⟩).2 (acc++[(part ⟨r,e,p⟩).1]);have c:=b ⟨r,e,p⟩;rw[zML]at a;simp only[List.length_cons,List.length_append,List.length_nil,zM,Nat.add_zero]at a c⊢;exact⟨by omega,by omega⟩
  ·exact⟨Nat.le_refl _,Nat.le_refl _⟩
theorem zIn{part:PSt->Fm × PSt}(b:SzP part)(n:Nat):SzP (zAk op word part n):=by
 intro st;have d:=b st;have a:=zPE (word:=word) b n (part st).2 [(part st).1];unfold zAk;generalize zCv word part n (part st).2 [(part st).1]=R at*;obtain⟨c,e⟩:=R;simp only[zM,List.length_cons,List.length_nil,Nat.add_zero,Nat.zero_add]at a⊢
 match c,a with
 |[],a=>simp at a
 |[k],a=>simp only[zOT,zM,List.length_cons,List.length_nil]at a⊢;omega
 |k::k'::r,a=>simp only[zOT,zG,List.length_cons]at a⊢;omega
theorem zER(op:Int)(nm:ByteArray)(c n:Int):zG (.mk op nm c n [])=1:=by simp[zG,zM]
theorem zQ3(fin:Int):∀n:Nat,SzP (zB4 fin n)
 |0,_=>by simp[zB4,zFm,zER]
 |n+1,st=>by
  have ih:=zQ3 fin n;have i:=zEw fin st
  have b:zHf (zBQ fin st).1=zRb->(zBQ fin st).2.toks.length +1<=st.toks.length:=by
   obtain⟨g,e,p⟩:=st
   cases g with
   |nil=>intro h;exact absurd (show za=zRb from h) (by decide)
   |cons t r=>intro _;show r.length+1<=r.length+1;omega
  simp only[zB4];generalize zBQ fin st=t at*;split
  ·rename_i hn;have a:=ih t.2;have d:=b hn;simp only[zG,zM,Nat.add_zero];omega
  ·split
   ·simp only[tFm,zER];omega
   ·split
    ·simp only[fFm,zER];omega
    ·split
     ·have a:=zIn (op:=6) (word:=bOr) (zIn (op:=5) (word:=zE1) ih n) n t.2;generalize zAk 6 bOr (zAk 5 zE1 (zB4 fin n) n) n t.2=f at*;have d:=zEw fin f.2;generalize zBQ fin f.2=c at*;split
      ·have:=zD2 c.2 5 c.1.pos;simp only;omega
      ·simp only;omega
     ·split
      ·have:=zD2 t.2 5 t.1.pos;simp only[zFm,zER];omega
      ·have:=zN7 fin (zHf t.1) t.2;(have e:zG (zIm fin (zHf t.1) t.2).1=1:=by unfold zIm;exact zER _ _ _ _);omega
theorem zMM(fin:Int)(n:Nat):SzP (zB8 fin n):=zIn (zIn (zQ3 fin n) n) n
end Go.Proofs.YthpocbeoanipbaaGreatDoor
