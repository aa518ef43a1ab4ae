/- Texts CY V15. -/
import Derived.Test.YtonmdbdopchkaaaGreatDoorM39
import Derived.Test.YtonmdbdopchkaaaGreatDoorM38
set_option linter.all false
namespace Go.Proofs.YtonmdbdopchkaaaGreatDoor
open Go.RowKit
set_option maxHeartbeats 16000000
set_option maxRecDepth 100000
structure RSt where
 all:List zB
 done:List (List Int)
def dn(d:List (List Int))(x y:Int):Int:=(d.getD x.toNat []).getD y.toNat 0
def zD4(d:List (List Int))(x y r:Int):List (List Int):=d.set x.toNat ((d.getD x.toNat []).set y.toNat r)
theorem zTH{d:List (List Int)}{x y r x' y':Int}(hx:0≤x)(hy:0≤y)(hx':0≤x')(hy':0≤y'):(x'=x∧y'=y∧(dn (zD4 d x y r) x' y'=r∨dn (zD4 d x y r) x' y'=0))∨dn (zD4 d x y r) x' y'=dn d x' y':=by
 unfold dn zD4;by_cases e:x'=x
 ·subst e;by_cases hlt:x'.toNat<d.length
  ·have h1:(d.set x'.toNat ((d.getD x'.toNat []).set y.toNat r)).getD x'.toNat []=(d.getD x'.toNat []).set y.toNat r:=by
    rw[List.getD_eq_getElem?_getD,List.getElem?_set_self hlt];rfl
   rw[h1,zCq];by_cases ey:y'=y
   ·subst ey;left;refine⟨rfl,rfl,?_⟩;split
    ·exact Or.inl rfl
    ·rename_i h;right;rw[List.getD_eq_getElem?_getD,List.getElem?_eq_none (by simp at h;simpa using h)];rfl
   ·right;rw[if_neg (by omega)]
  ·right;rw[List.set_eq_of_length_le (by omega)]
 ·right
  have h1:(d.set x.toNat ((d.getD x.toNat []).set y.toNat r)).getD x'.toNat []=d.getD x'.toNat []:=by
   rw[List.getD_eq_getElem?_getD,List.getElem?_set_ne (by omega),List.getD_eq_getElem?_getD]
  rw[h1]
def zAH(ds:List zC)(a b:List zB):Nat->Int->Int->RSt->Int × RSt
 |0,_,_,st=>(0,st)
 |k+1,x,y,st=>
  if 0<dn st.done x y then(dn st.done x y-1,st)
  else if(nAt a x).kids =[]∧(nAt b y).kids =[]then
   ((zW st.all ⟨(nAt a x).leaf &&(nAt b y).leaf,0,[],[]⟩).1,⟨(zW st.all ⟨(nAt a x).leaf &&(nAt b y).leaf,0,[],[]⟩).2,zD4 st.done x y ((zW st.all ⟨(nAt a x).leaf &&(nAt b y).leaf,0,[],[]⟩).1+1)⟩)
  else
   let i:=min (zF ds (nAt a x)) (zF ds (nAt b y));let r:=zH (λv st=>zAH ds a b k (zG a x i v) (zG b y i v) st) (zi ds (nAt a x) (nAt b y)) st;let o:=zb r.2.all i (zi ds (nAt a x) (nAt b y)) r.1
   (o.1,⟨o.2,zD4 r.2.done x y (o.1+1)⟩)
theorem zGl{f:Int->RSt->Int × RSt}(h:∀v st,∃t,(f v st).2.all =st.all++t):∀(l:List Int)(st:RSt),∃t,(zH f l st).2.all =st.all++t
 |[],st=>⟨[],by simp[zH]⟩
 |v::l,st=>zDC (h v st) (zGl h l _)
theorem zKJ(ds:List zC)(a b:List zB):∀(k:Nat)(x y:Int)(st:RSt),∃t,(zAH ds a b k x y st).2.all =st.all++t
 |0,_,_,st=>⟨[],by simp[zAH]⟩
 |k+1,x,y,st=>by
  unfold zAH;split
  ·exact⟨[],by simp⟩
  ·split
   ·exact zDH _ _
   ·exact zDC (zGl (λv st=>zKJ ds a b k _ _ st) _ _) (zDB _ _ _ _)
section both
variable {ds:List zC} {a b:List zB}
structure RInv (ds:List zC) (a b:List zB) (P:List (Int × Int)) (st:RSt):Prop where
 tab:zEw ds a b P ⟨st.all,[]⟩
 done:∀x y,0≤x->0≤y->0<dn st.done x y->For ds a b st.all x y (dn st.done x y-1)
theorem RInv.length_le{P:List (Int × Int)}{st:RSt}(hl:zC5 ds)(h:RInv ds a b P st):st.all.length≤P.length:=h.tab.length_le hl
theorem RInv.put{P:List (Int × Int)}{st:RSt}{all':List zB}{x y r:Int}(hx:0≤x)(hy:0≤y)(h:RInv ds a b P st)(hxy:(x,y)∈P)(hg:Good ds all')(hp:∃t,all'=st.all++t)(hF:For ds a b all' x y r)
  (hlen:∀j,Rng all' j->Rng st.all j∨j=r):RInv ds a b P ⟨all',zD4 st.done x y (r+1)⟩:=by
 refine⟨⟨hg,λp hp=>absurd hp (by simp),λj hj=> ?_⟩,λx' y' hx' hy' hpos=> ?_⟩
 ·rcases hlen j hj with hj'|e
  ·obtain⟨p,hpm,e⟩:=h.tab.from_ j hj';refine⟨p,hpm,λc hc=> ?_⟩;obtain⟨t,rfl⟩:=hp;show S ds (st.all++t) j c=_;rw[zIt h.tab.good hg hj'];exact e c hc
  ·subst e;exact⟨(x,y),hxy,hF.says⟩
 ·simp only at hpos⊢;rcases zTH (d:=st.done) (r:=r+1) hx hy hx' hy' with⟨rfl,rfl,e|e⟩|e
  ·rw[e,show r+1-1=r from by omega];exact hF
  ·rw[e]at hpos;exact absurd hpos (by decide)
  ·rw[e]at hpos⊢;exact(h.done x' y' hx' hy' hpos).app h.tab.good hg hp
theorem zFV(hl:zC5 ds)(ha:Good ds a)(hb:Good ds b){P:List (Int × Int)}(hP:Closed ds a b P):∀(k:Nat)(x y:Int)(st:RSt),(x,y)∈P->
  ds.length-(min (zF ds (nAt a x)) (zF ds (nAt b y))).toNat <k->RInv ds a b P st->
  RInv ds a b P (zAH ds a b k x y st).2∧For ds a b (zAH ds a b k x y st).2.all x y (zAH ds a b k x y st).1
 |0,_,_,_,_,h,_=>by omega
 |k+1,x,y,st,hxy,hk,hst=>by
  obtain⟨hx,hy,hcl⟩:=hP _ hxy;simp only at hx hy hcl;have ax:=zC7 ha hx;have ay:=zC7 hb hy;unfold zAH;by_cases hpos:0<dn st.done x y
  ·rw[if_pos hpos];exact⟨hst,hst.done x y hx.1 hy.1 hpos⟩
  ·rw[if_neg hpos];by_cases hend:(nAt a x).kids =[]∧(nAt b y).kids =[]
   ·rw[if_pos hend];obtain⟨kx,ky⟩:=hend;obtain⟨M,hat⟩:=zFX hst.tab.good (n:=⟨(nAt a x).leaf &&(nAt b y).leaf,0,[],[]⟩) (Or.inl ⟨rfl,rfl,rfl⟩);have hnew:=zDH st.all ⟨(nAt a x).leaf &&(nAt b y).leaf,0,[],[]⟩
    have hlen:∀j,Rng (zW st.all ⟨(nAt a x).leaf &&(nAt b y).leaf,0,[],[]⟩).2 j->Rng st.all j∨j=(zW st.all ⟨(nAt a x).leaf &&(nAt b y).leaf,0,[],[]⟩).1:=by
     intro j hj;unfold zW at hj⊢;split at hj
     ·exact Or.inl hj
     ·rename_i hm;rw[if_neg hm];have h0:=hj.1;have h1:=hj.2;simp at h1;by_cases e:j=(st.all.length:Nat)
      ·exact Or.inr e
      ·exact Or.inl ⟨h0,by omega⟩
    simp only at M;generalize zW st.all ⟨(nAt a x).leaf &&(nAt b y).leaf,0,[],[]⟩=r at*;have hF:For ds a b r.2 x y r.1:=⟨M.rng,λc _=>by rw[M.good.S_leaf (by rw[hat]),hat,ha.S_leaf kx,hb.S_leaf ky],λh=>absurd (by rw[hat]) h⟩;exact⟨hst.put hx.1 hy.1 hxy M.good M.pre hF hlen,hF⟩
   ·rw[if_neg hend]
    have hi:min (zF ds (nAt a x)) (zF ds (nAt b y))<ds.length:=by
     by_cases kx:(nAt a x).kids =[]
     ·(have ky:(nAt b y).kids ≠[]:=λe=>hend ⟨kx,e⟩);have I:=hb.inner hy ky;have:=I.f1;(have e:zF ds (nAt b y)=(nAt b y).fact :=by unfold zF;rw[if_neg ky]);omega
     ·have I:=ha.inner hx kx;have:=I.f1;(have e:zF ds (nAt a x)=(nAt a x).fact :=by unfold zF;rw[if_neg kx]);omega
    have hmix:∃rest,zi ds (nAt a x) (nAt b y)=(fAt ds (min (zF ds (nAt a x)) (zF ds (nAt b y)))).lo ::rest∧zk (fAt ds (min (zF ds (nAt a x)) (zF ds (nAt b y)))).lo (fAt ds (min (zF ds (nAt a x)) (zF ds (nAt b y)))).hi rest∧
      ((nAt a x).kids ≠[]->(nAt a x).fact =min (zF ds (nAt a x)) (zF ds (nAt b y))->∀v∈(nAt a x).cuts,v∈rest)∧((nAt b y).kids ≠[]->(nAt b y).fact =min (zF ds (nAt a x)) (zF ds (nAt b y))->∀v∈(nAt b y).cuts,v∈rest):=by
     refine⟨_,rfl,zE1 λv hv=> ?_,λh1 h2 v hv=> ?_,λh1 h2 v hv=> ?_⟩
     ·rcases List.mem_append.1 hv with hv|hv
      ·split at hv
       ·rename_i e;rcases ha.proper _ (zDz hx)with h|h
        ·rw[h.2.2]at hv;simp at hv
        ·(have:zF ds (nAt a x)=(nAt a x).fact :=by unfold zF;rw[if_neg h.ne]);rw[<-e,this];exact zA3 h.asc v hv
       ·simp at hv
      ·split at hv
       ·rename_i e;rcases hb.proper _ (zDz hy)with h|h
        ·rw[h.2.2]at hv;simp at hv
        ·(have:zF ds (nAt b y)=(nAt b y).fact :=by unfold zF;rw[if_neg h.ne]);rw[<-e,this];exact zA3 h.asc v hv
       ·simp at hv
     ·rw[zCb,List.mem_append];left;rw[if_pos (by rw[<-h2];unfold zF;rw[if_neg h1])];exact hv
     ·rw[zCb,List.mem_append];right;rw[if_pos (by rw[<-h2];unfold zF;rw[if_neg h1])];exact hv
    obtain⟨rest,hmx,hasc,hca,hcb⟩:=hmix;(have hi0:0≤min (zF ds (nAt a x)) (zF ds (nAt b y)):=by omega);(have hia:min (zF ds (nAt a x)) (zF ds (nAt b y))≤zF ds (nAt a x):=by omega);(have hib:min (zF ds (nAt a x)) (zF ds (nAt b y))≤zF ds (nAt b y):=by omega);simp only;generalize hmi:min (zF ds (nAt a x)) (zF ds (nAt b y))=i at*
    have hkid:∀(l:List Int)(st:RSt),RInv ds a b P st->
      RInv ds a b P (zH (λv st=>zAH ds a b k (zG a x i v) (zG b y i v) st) l st).2∧
      ∀j,j<l.length->For ds a b (zH (λv st=>zAH ds a b k (zG a x i v) (zG b y i v) st) l st).2.all (zG a x i (l.getD j 0)) (zG b y i (l.getD j 0)) ((zH (λv st=>zAH ds a b k (zG a x i v) (zG b y i v) st) l st).1.getD j 0):=by
     intro l
     induction l with
     |nil=>intro st hst;exact⟨hst,λj hj=>absurd hj (by simp)⟩
     |cons v l ih=>
      intro st hst;have sx:=zBg ha (v:=v) hx hia hi;have sy:=zBg hb (v:=v) hy hib hi;have hp1:=zGl (f:=λv st=>zAH ds a b k (zG a x i v) (zG b y i v) st) (λv st=>zKJ ds a b k _ _ st) l (zAH ds a b k (zG a x i v) (zG b y i v) st).2;obtain⟨A1,F1⟩:=zFV hl ha hb hP k (zG a x i v) (zG b y i v) st (hcl v) (by omega) hst;obtain⟨A2,F2⟩:=ih _ A1;refine⟨A2,λj hj=> ?_⟩
      cases j with
      |zero=>exact F1.app A1.tab.good A2.tab.good hp1
      |succ j=>exact F2 j (by simpa using hj)
    obtain⟨A1,F1⟩:=hkid (zi ds (nAt a x) (nAt b y)) st hst;have hlk:=zA6 (f:=λv st=>zAH ds a b k (zG a x i v) (zG b y i v) st) (zi ds (nAt a x) (nAt b y)) st;rw[hmx]at A1 F1 hlk⊢;generalize zH (λv st=>zAH ds a b k (zG a x i v) (zG b y i v) st) ((fAt ds i).lo ::rest) st=r at*;obtain⟨kids,st'⟩:=r;simp only at A1 F1 hlk⊢
    cases kids with
    |nil=>simp at hlk
    |cons k0 ks=>
     (have hlk':rest.length=ks.length:=by simpa using hlk.symm);obtain⟨n,hn⟩:=Int.eq_ofNat_of_zero_le hi0;subst hn;have hn:n<ds.length:=by omega
     have hF1:∀q∈k0::ks,∃j,j<((fAt ds (n:Int)).lo ::rest).length ∧q=(k0::ks).getD j 0:=λq hq=>by
      obtain⟨j,hj,rfl⟩:=List.getElem_of_mem hq;exact⟨j,by simp only[List.length_cons]at hj⊢;omega,by rw[List.getD_eq_getElem?_getD,List.getElem?_eq_getElem hj];rfl⟩
     have hfa:fAt ds (n:Int)=ds.getD n zAA:=by unfold fAt;rw[Int.toNat_natCast]
     obtain⟨M,hS,hlow⟩:=zFz A1.tab.good hn hlk' (by rw[<-hfa];exact hasc) (λq hq=>by obtain⟨j,hj,rfl⟩:=hF1 q hq;exact(F1 j hj).rng) (λq hq hqk=>by
      obtain⟨j,hj,rfl⟩:=hF1 q hq;have:=(F1 j hj).low hqk;simp only at this⊢;have sx:=zBg ha (v:=((fAt ds (n:Int)).lo ::rest).getD j 0) hx hia hi;have sy:=zBg hb (v:=((fAt ds (n:Int)).lo ::rest).getD j 0) hy hib hi
      omega)
     rw[hfa];simp only at M hS hlow
     have hlen:∀j,Rng (zb st'.all n ((ds.getD n zAA).lo ::rest) (k0::ks)).2 j->Rng st'.all j∨j=(zb st'.all n ((ds.getD n zAA).lo ::rest) (k0::ks)).1:=by
      intro j hj;unfold zb zW at hj⊢;split at hj
      ·exact Or.inl hj
      ·rename_i hm;rw[if_neg hm];split at hj
       ·exact Or.inl hj
       ·rename_i hm2;rw[if_neg hm2];have h0:=hj.1;have h1:=hj.2;simp at h1;by_cases e:j=(st'.all.length:Nat)
        ·exact Or.inr e
        ·exact Or.inl ⟨h0,by omega⟩
     generalize zb st'.all n ((ds.getD n zAA).lo ::rest) (k0::ks)=o at*
     have hF:For ds a b o.2 x y o.1:=by
      refine⟨M.rng,λc hc=> ?_,λh=> ?_⟩
      ·rw[hS c];have hle:=zCs rest (c.getD n 0);rw[(F1 (nx rest (c.getD n 0)) (by simp only[List.length_cons];omega)).says c hc];have hfit:=hc.2 n hn;have s1:=zCj (v:=c.getD n 0) hasc (by rw[hfa];exact hfit.1);(have s2:=λx hx=>zCt (v:=c.getD n 0) (x:=x) hasc hx);rw[zH4];rw[zKV ha hx c (by omega) (λh1 h2=>zJM s1 λz hz=>s2 z (hca h1 h2 z hz)),zKV hb hy c (by omega) (λh1 h2=>zJM s1 λz hz=>s2 z (hcb h1 h2 z hz))]
      ·have:=hlow h;omega
     exact⟨A1.put hx.1 hy.1 hxy M.good M.pre hF hlen,hF⟩
end both
def zeros(n m:Nat):List (List Int):=List.replicate n (List.replicate m 0)
theorem zOM(n m:Nat)(x y:Int):dn (zeros n m) x y=0:=by
 unfold dn zeros;rw[List.getD_eq_getElem?_getD (l:=List.replicate n _),List.getElem?_replicate];split
 ·rw[Option.getD_some,List.getD_eq_getElem?_getD,List.getElem?_replicate];split<;>rfl
 ·simp
theorem RInv.new{ds:List zC}{a b:List zB}{P:List (Int × Int)}(n m:Nat):RInv ds a b P ⟨[],zeros n m⟩:=
 ⟨zEw.new,λx y _ _ h=>by rw[show(RSt.mk [] (zeros n m)).done =zeros n m from rfl,zOM]at h;exact absurd h (by decide)⟩
def zIo(ds:List zC)(a b:List zB):List zB × Int:=
 if zAB ds a=true∧zAB ds b=true then
  zAg ds (zAH ds a b (ds.length+1) 0 0 ⟨[],zeros a.length b.length⟩).2.all (zAH ds a b (ds.length+1) 0 0 ⟨[],zeros a.length b.length⟩).1
 else([],1)
theorem zUX{ds:List zC}{a b:List zB}(hlen:a.length*b.length≤4000):zIo ds a b=zFG ds a b:=by
 by_cases hv:zAB ds a=true∧zAB ds b=true
 ·have ha:=zAk.1 hv.1;have hb:=zAk.1 hv.2;have h0:=zUV ha hb (zDw ha.good hb.good) (zCd.2 ⟨⟨by decide,ha.rng.2⟩,by decide,hb.rng.2⟩) (by rw[zH7];exact hlen);obtain⟨A,F⟩:=zFV (zBn ha.dom) ha.good hb.good (zDw ha.good hb.good) (ds.length+1) 0 0 ⟨[],zeros a.length b.length⟩ (zCd.2 ⟨⟨by decide,ha.rng.2⟩,by decide,hb.rng.2⟩) (zDg ha hb) (RInv.new _ _);unfold zIo;rw[if_pos hv];generalize zAH ds a b (ds.length+1) 0 0 ⟨[],zeros a.length b.length⟩=r at*;generalize he:zFG ds a b=q at*;obtain⟨g,e⟩:=q;simp only at h0;subst h0;obtain⟨-,-,V,hS⟩:=zUg he
  have hc:zAQ ds r.2.all r.1=g:=by
   rw[<-V.canon];exact zHf (zBn ha.dom) A.tab.good V.good F.rng V.rng λc hc=>by rw[F.says c hc,hS c hc]
  unfold zAg;have hle:=V.len;rw[<-zIm,hc,if_neg (by omega)]
 ·unfold zIo zFG;rw[if_neg hv,if_neg hv]
theorem Tryz.egNode25:∀args w,(callFunc 88 args).run Tryz.prog w= .ok (.enter 88 args) w:=enters_of Tryz.func88 (by kernel_rfl) rfl
theorem zMd{L:Fm->Int}{l:List Fm}{k:Nat}(hk:k<l.length)(h:z6 L (l.take k)=0)(e:zq L l[k]=0):z6 L (l.take (k+1))=0:=by
 rw[List.take_succ_eq_append_getElem hk,zDK,if_pos h,z6,if_pos e];rfl
theorem zMe{L:Fm->Int}{l:List Fm}{k:Nat}(hk:k<l.length)(h:z6 L (l.take k)=0)(e:zq L l[k]≠0):z6 L l=zq L l[k]:=by
 have hs:l=l.take k++l[k]::l.drop (k+1):=by rw[<-List.drop_eq_getElem_cons hk];exact(List.take_append_drop k l).symm
 have h2:z6 L l=z6 L (l.take k++l[k]::l.drop (k+1)):=congrArg (z6 L) hs;rw[h2,zDK,if_pos h,z6,if_neg e]
theorem zPV{ds:List zC}:∀(m:Nat)(f:Fm),zJ f≤m->m≤1000000->∀(Z Zd:zD)(cs:List Value)(vd:Value)(w:World),FmR Z w f cs->Facts Zd w vd ds->
  Calls Tryz.prog 88 #[.agg cs.toArray,.agg #[vd]] w λe w'=>e= .returned (.int .i64 (zq (zY ds) f))∧Below w.heap.size w w':=by
 intro m
 induction m with
 |zero=>intro f hm;have:=zBE f;omega
 |succ m ih=>
 intro f hm hmm Z Zd cs vd w hf hdd;have eg:=Tryz.egNode25;have IH:=hid ih;clear ih;have hfs:=zBM f;have HU:=hid (zEI (zY ds) f);have HL:=hid (show zY ds f=if zBB f=false then 1 else if f.op≠3 then 0 else if f.num<0∨1000000<f.num then 10 else if zV ds f.name<0 then 7 else 0 from rfl);have HFM:=hid (λW(hW:Below w.heap.size w W)=>zNT Z f cs W (FmR.keep (.of_below hW) _ _ hf));obtain⟨A,cap,rfl⟩:=FmR.form hf;have hks:zAT (λcs f=>FmR Z w f cs) 5 Z w f.kids A:=by cases f;unfold FmR at hf;obtain⟨_,_,_,_,A',cap',e,_,_,_,h⟩:=hf;injection e with _ e;injection e with _ e;injection e with _ e;injection e with _ e;injection e with e;injection e with e;subst e;exact zt.seq h
 have hkl:f.kids.length≤1000000:=by have:=zA8 f.kids;omega
 obtain⟨D,dcap,rfl,hdcap,hdlen,hdat⟩:=hdd.open_;have HS:=hid hks;have HM:=hid (And.intro hm (And.intro hmm hfs));have HDD:=hid hdd;have HIX:=hid (λW(hW:Below w.heap.size w W)=>zI6 Zd (.slice D ds.length dcap) ds f.name W (hdd.keep (.of_below hW)));have hb0:=zAy w (.cells #[.int .i64 f.op,.string f.name,.int .i64 f.cmp,.int .i64 f.num,.slice A f.kids.length cap] 24) (.cells #[.slice D ds.length dcap] 27);have hbx:=(Blk.new w 24 #[.int .i64 f.op,.string f.name,.int .i64 f.cmp,.int .i64 f.num,.slice A f.kids.length cap]).alloc (.cells #[.slice D ds.length dcap] 27);have hbd:=Blk.new' (w.alloc (.cells #[.int .i64 f.op,.string f.name,.int .i64 f.cmp,.int .i64 f.num,.slice A f.kids.length cap] 24)) 27 #[.slice D ds.length dcap] (n:=w.heap.size+1) (by simp);have zZ:=hid (And.intro hbx (And.intro hbd hb0));clear hf hks hdd hb0 hbx hbd hm hmm hfs hdat;go_enter Tryz.func88,Tryz.ntmps88
 go_wp2_with fail
 refine(HFM.out _ zZ.out.2.2).mono ?_;rintro e w1 ⟨rfl,hb1⟩;have HST:=hid (And.intro (zZ.out.1.below hb1 zZ.out.1.lt) (And.intro (zZ.out.2.1.below hb1 zZ.out.2.1.lt) (zZ.out.2.2.trans (hb1.mono zZ.out.2.2.size))));have hsz1:=hb1.size;clear hb1 zZ HFM;have b0:=HST.out.1.at0;have b1:=HST.out.1.at1;have b3:=HST.out.1.at3;have b4:=HST.out.1.at4;have bl:=HST.out.1.lt;have d0:=HST.out.2.1.at0;have dl:=HST.out.2.1.lt;cases hfo:zBB f
 ·have HE:=hid (show zq (zY ds) f=1 from by rw[HU.out,HL.out.trans (if_pos hfo)];rfl);clear HL HU hfo;go_wp2;go_ret;exact⟨zAD HE.out.symm,HST.out.2.2⟩
 ·have HL2:=hid (HL.out.trans (if_neg (λh=>by rw[hfo]at h;exact Bool.noConfusion h)));clear hfo HL;by_cases h3:f.op=3
  ·(have e1:(f.op==(3:Int))=true:=by simp[h3]);by_cases hn:f.num<0∨1000000<f.num
   ·have HE:=hid (show zq (zY ds) f=10 from by rw[HU.out,HL2.out.trans ((if_neg (λh=>h h3)).trans (if_pos hn))];rfl);by_cases hn0:f.num<0
    ·have e2:decide (f.num<0)=true:=decide_eq_true hn0;clear hn hn0 h3 HL2 HU;go_wp2;go_ret;exact⟨zAD HE.out.symm,HST.out.2.2⟩
    ·have e2:decide (f.num<0)=false:=decide_eq_false hn0;have e3:decide (1000000<f.num)=true:=decide_eq_true (by omega);clear hn hn0 h3 HL2 HU;go_wp2;go_ret;exact⟨zAD HE.out.symm,HST.out.2.2⟩
   ·have e2:decide (f.num<0)=false:=decide_eq_false (by omega);have e3:decide (1000000<f.num)=false:=decide_eq_false (by omega);by_cases hq:zV ds f.name<0
    ·have HE:=hid (show zq (zY ds) f=7 from by rw[HU.out,HL2.out.trans ((if_neg (λh=>h h3)).trans ((if_neg hn).trans (if_pos hq)))];rfl);have e4:decide (zV ds f.name<0)=true:=decide_eq_true hq;clear hn hq h3 HL2 HU;generalize zV ds f.name=q at*;(go_wp2_with fail);refine(HIX.out _ HST.out.2.2).mono ?_;rintro e w2 ⟨rfl,hb2⟩;have hbw:=HST.out.2.2.trans (hb2.mono HST.out.2.2.size);clear hb2;go_wp2;go_ret;exact⟨zAD HE.out.symm,hbw⟩
    ·have HE:=hid (show zq (zY ds) f=z6 (zY ds) f.kids from by rw[HU.out,HL2.out.trans ((if_neg (λh=>h h3)).trans ((if_neg hn).trans (if_neg hq))),if_pos rfl]);have e4:decide (zV ds f.name<0)=false:=decide_eq_false hq;clear hn hq h3 HL2 HU;generalize zV ds f.name=q at*;(go_wp2_with fail);refine(HIX.out _ HST.out.2.2).mono ?_;rintro e w2 ⟨rfl,hb2⟩;replace HST:=hid (And.intro (HST.out.1.below hb2 HST.out.1.lt) (And.intro (HST.out.2.1.below hb2 HST.out.2.1.lt) (HST.out.2.2.trans (hb2.mono HST.out.2.2.size))));clear hb2 b0 b1 b3 b4 bl d0 dl hsz1;have b4:=HST.out.1.at4;have bl:=HST.out.1.lt;go_wp2;clear b4 bl;go_loopw[5] (λi wr=>∃k:Nat,k≤f.kids.length∧i= .int .i64 k∧Hid (z6 (zY ds) (f.kids.take k)=0)∧Blk wr w.heap.size 24 #[.int .i64 f.op,.string f.name,.int .i64 f.cmp,.int .i64 f.num,.slice A f.kids.length cap]∧Blk wr (w.heap.size+1) 27 #[.slice D ds.length dcap]∧Below w.heap.size w wr) (λi _=>f.kids.length-(intOf i).toNat);case atStart=>exact⟨0,Nat.zero_le _,rfl,hid (by simp[z6]),HST.out⟩
     case round=>
      obtain⟨k,hk,rfl,hall,hbx,hbd,hbel⟩:=hrel;have b4:=hbx.at4;have bl:=hbx.lt;have d0:=hbd.at0;have dl:=hbd.lt;have HB:=hid (And.intro hbx (And.intro hbd hbel));by_cases hlt:k<f.kids.length
      ·have HTK:=hid (zMd (L:=zY ds) hlt hall.out);have zKR:=hid (zMe (L:=zY ds) hlt hall.out);obtain⟨gb,goff,gcs,rfl,hz,hgcs,hfk⟩:=HS.out.at_ hlt;have hkz:zA Z w wr:= .of_below hbel;have hfk':=FmR.keep hkz _ _ hfk;obtain⟨A',cap',rfl⟩:=FmR.form hfk;have hle:=zAY hlt;obtain⟨c0,c1,c2,c3,c4⟩:=zp (λj u hu=>hkz.cell (p:=⟨gb,goff+k*5+j,none⟩) hz (hgcs j u hu));have gl:=lt_of_cell c0;have zN:=hid (λW(hW:Below wr.heap.size wr W)=>IH.out f.kids[k] (by have:=HM.out;omega) (by have:=HM.out;omega) Z Zd _ _ W (FmR.keep (.of_below hW) _ _ hfk') (HDD.out.keep (.of_below (hbel.trans (hW.mono hbel.size)))));(have hk1:((k:Nat):Int)<(f.kids.length:Int):=by omega);(have hk3:(0:Int)≤((k:Nat):Int):=by omega);clear hgcs hfk hfk' hkz hle hbx hbd hbel hall;generalize f.kids[k]=g at*;generalize zq (zY ds) g=r at*;go_wp2
       go_region_held3(λw'=>w'.cell? ⟨w.heap.size,4,none⟩=some (.slice (some ⟨gb,goff,none⟩) f.kids.length cap)∧w'.cell? ⟨w.heap.size+1,0,none⟩=some (.slice D ds.length dcap)∧w'.cell? ⟨gb,goff+k*5,none⟩=some (.int .i64 g.op)∧w'.cell? ⟨gb,goff+k*5+1,none⟩=some (.string g.name)∧w'.cell? ⟨gb,goff+k*5+2,none⟩=some (.int .i64 g.cmp)∧w'.cell? ⟨gb,goff+k*5+3,none⟩=some (.int .i64 g.num)∧w'.cell? ⟨gb,goff+k*5+4,none⟩=some (.slice A' g.kids.length cap'))
        (first|exact⟨p0,p1,p2,p3,p4,p5,p6⟩|(refine⟨?_,?_,?_,?_,?_,?_,?_⟩<;>go_keep))
        (first
         |(go_at_call 88;refine(zN.out _ (Below.refl _ _).drew).mono ?_;rintro e w1 ⟨rfl,hb1⟩;have hb1:Below wr.heap.size wr w1:=(Below.refl _ _).drew.trans hb1;have p0:=brd hb1 b4 bl;have p1:=brd hb1 d0 dl;have p2:=brd hb1 c0 gl;have p3:=brd hb1 c1 gl;have p4:=brd hb1 c2 gl;have p5:=brd hb1 c3 gl;have p6:=brd hb1 c4 gl))
       have HN:=hid (And.intro (HB.out.1.below hb1 bl) (And.intro (HB.out.2.1.below hb1 dl) (HB.out.2.2.trans (hb1.mono HB.out.2.2.size))));clear p0 p1 p2 p3 p4 p5 p6 hb1;by_cases hg:r=0
       ·have HT:=hid (HTK.out hg);(have e9:(r !=(0:Int))=false:=by simp[hg]);clear hg HTK zKR;go_wp2;go_roundw;(case rel=>exact⟨k+1,by omega,by go_num,HT,HN.out⟩);case measure=>simp[intOf];omega
       ·have HT:=hid (HE.out.trans (zKR.out hg));(have e9:(r !=(0:Int))=true:=by simpa using hg);clear hg HTK zKR;go_wp2;go_ret;exact⟨zAD HT.out.symm,HN.out.2.2⟩
      ·(obtain rfl:k=f.kids.length:=by omega);have HT:=hid (HE.out.trans (show z6 (zY ds) f.kids=0 from by have:=hall.out;rwa[List.take_length]at this));clear hall hbx hbd hbel;go_wp2;go_ret;exact⟨zAD HT.out.symm,HB.out.2.2⟩
  ·(have e1:(f.op==(3:Int))=false:=by simp[h3]);have HE:=hid (show zq (zY ds) f=z6 (zY ds) f.kids from by rw[HU.out,HL2.out.trans (if_pos h3),if_pos rfl]);clear h3 HL2 HU;go_wp2;clear b0 b1 b3 b4 bl d0 dl hsz1;go_loopw[5] (λi wr=>∃k:Nat,k≤f.kids.length∧i= .int .i64 k∧Hid (z6 (zY ds) (f.kids.take k)=0)∧Blk wr w.heap.size 24 #[.int .i64 f.op,.string f.name,.int .i64 f.cmp,.int .i64 f.num,.slice A f.kids.length cap]∧Blk wr (w.heap.size+1) 27 #[.slice D ds.length dcap]∧Below w.heap.size w wr) (λi _=>f.kids.length-(intOf i).toNat);case atStart=>exact⟨0,Nat.zero_le _,rfl,hid (by simp[z6]),HST.out⟩
   case round=>
    obtain⟨k,hk,rfl,hall,hbx,hbd,hbel⟩:=hrel;have b4:=hbx.at4;have bl:=hbx.lt;have d0:=hbd.at0;have dl:=hbd.lt;have HB:=hid (And.intro hbx (And.intro hbd hbel));by_cases hlt:k<f.kids.length
    ·have HTK:=hid (zMd (L:=zY ds) hlt hall.out);have zKR:=hid (zMe (L:=zY ds) hlt hall.out);obtain⟨gb,goff,gcs,rfl,hz,hgcs,hfk⟩:=HS.out.at_ hlt;have hkz:zA Z w wr:= .of_below hbel;have hfk':=FmR.keep hkz _ _ hfk;obtain⟨A',cap',rfl⟩:=FmR.form hfk;have hle:=zAY hlt;obtain⟨c0,c1,c2,c3,c4⟩:=zp (λj u hu=>hkz.cell (p:=⟨gb,goff+k*5+j,none⟩) hz (hgcs j u hu));have gl:=lt_of_cell c0;have zN:=hid (λW(hW:Below wr.heap.size wr W)=>IH.out f.kids[k] (by have:=HM.out;omega) (by have:=HM.out;omega) Z Zd _ _ W (FmR.keep (.of_below hW) _ _ hfk') (HDD.out.keep (.of_below (hbel.trans (hW.mono hbel.size)))));(have hk1:((k:Nat):Int)<(f.kids.length:Int):=by omega);(have hk3:(0:Int)≤((k:Nat):Int):=by omega);clear hgcs hfk hfk' hkz hle hbx hbd hbel hall;generalize f.kids[k]=g at*;generalize zq (zY ds) g=r at*;go_wp2
     go_region_held3(λw'=>w'.cell? ⟨w.heap.size,4,none⟩=some (.slice (some ⟨gb,goff,none⟩) f.kids.length cap)∧w'.cell? ⟨w.heap.size+1,0,none⟩=some (.slice D ds.length dcap)∧w'.cell? ⟨gb,goff+k*5,none⟩=some (.int .i64 g.op)∧w'.cell? ⟨gb,goff+k*5+1,none⟩=some (.string g.name)∧w'.cell? ⟨gb,goff+k*5+2,none⟩=some (.int .i64 g.cmp)∧w'.cell? ⟨gb,goff+k*5+3,none⟩=some (.int .i64 g.num)∧w'.cell? ⟨gb,goff+k*5+4,none⟩=some (.slice A' g.kids.length cap'))
      (first|exact⟨p0,p1,p2,p3,p4,p5,p6⟩|(refine⟨?_,?_,?_,?_,?_,?_,?_⟩<;>go_keep))
      (first
       |(go_at_call 88;refine(zN.out _ (Below.refl _ _).drew).mono ?_;rintro e w1 ⟨rfl,hb1⟩;have hb1:Below wr.heap.size wr w1:=(Below.refl _ _).drew.trans hb1;have p0:=brd hb1 b4 bl;have p1:=brd hb1 d0 dl;have p2:=brd hb1 c0 gl;have p3:=brd hb1 c1 gl;have p4:=brd hb1 c2 gl;have p5:=brd hb1 c3 gl;have p6:=brd hb1 c4 gl))
     have HN:=hid (And.intro (HB.out.1.below hb1 bl) (And.intro (HB.out.2.1.below hb1 dl) (HB.out.2.2.trans (hb1.mono HB.out.2.2.size))));clear p0 p1 p2 p3 p4 p5 p6 hb1;by_cases hg:r=0
     ·have HT:=hid (HTK.out hg);(have e9:(r !=(0:Int))=false:=by simp[hg]);clear hg HTK zKR;go_wp2;go_roundw;(case rel=>exact⟨k+1,by omega,by go_num,HT,HN.out⟩);case measure=>simp[intOf];omega
     ·have HT:=hid (HE.out.trans (zKR.out hg));(have e9:(r !=(0:Int))=true:=by simpa using hg);clear hg HTK zKR;go_wp2;go_ret;exact⟨zAD HT.out.symm,HN.out.2.2⟩
    ·(obtain rfl:k=f.kids.length:=by omega);have HT:=hid (HE.out.trans (show z6 (zY ds) f.kids=0 from by have:=hall.out;rwa[List.take_length]at this));clear hall hbx hbd hbel;go_wp2;go_ret;exact⟨zAD HT.out.symm,HB.out.2.2⟩
theorem zON{ds:List zC}(f:Fm)(hs:zJ f≤1000000)(Z Zd:zD)(cs:List Value)(vd:Value)(w:World)(hf:FmR Z w f cs)(hdd:Facts Zd w vd ds):
  Calls Tryz.prog 39 #[.agg cs.toArray,.agg #[vd]] w λe w'=>e= .returned (.int .i64 (zBN ds f))∧Below w.heap.size w w':=by
 have HLG:=hid (λW(hW:Below w.heap.size w W)=>zLk f Z cs W (FmR.keep (.of_below hW) _ _ hf) (by omega));have HND:=hid (λW(hW:Below w.heap.size w W)=>zPV (ds:=ds) 1000000 f hs (Nat.le_refl _) Z Zd cs vd W (FmR.keep (.of_below hW) _ _ hf) (hdd.keep (.of_below hW)));have HC:=hid (show zBN ds f=if zCD f=true then 2 else zq (zY ds) f from rfl);obtain⟨A,cap,rfl⟩:=FmR.form hf;obtain⟨D,dcap,rfl,-,-,-⟩:=hdd.open_;have hb0:=zAy w (.cells #[.int .i64 f.op,.string f.name,.int .i64 f.cmp,.int .i64 f.num,.slice A f.kids.length cap] 24) (.cells #[.slice D ds.length dcap] 27);have hbx:=(Blk.new w 24 #[.int .i64 f.op,.string f.name,.int .i64 f.cmp,.int .i64 f.num,.slice A f.kids.length cap]).alloc (.cells #[.slice D ds.length dcap] 27);have hbd:=Blk.new' (w.alloc (.cells #[.int .i64 f.op,.string f.name,.int .i64 f.cmp,.int .i64 f.num,.slice A f.kids.length cap] 24)) 27 #[.slice D ds.length dcap] (n:=w.heap.size+1) (by simp);have zZ:=hid (And.intro hbx (And.intro hbd hb0));clear hf hdd hb0 hbx hbd;cases hl:zCD f
 ·rw[hl]at HLG;have HE:=hid (HC.out.trans (if_neg (λh=>by rw[hl]at h;exact Bool.noConfusion h)));clear hl HC;generalize zq (zY ds) f=r at*;go_enter Tryz.func39,Tryz.ntmps39
  go_wp2_with fail
  refine(HLG.out _ zZ.out.2.2).mono ?_;rintro e w1 ⟨rfl,hb1⟩;have HST:=hid (And.intro (zZ.out.1.below hb1 zZ.out.1.lt) (And.intro (zZ.out.2.1.below hb1 zZ.out.2.1.lt) (zZ.out.2.2.trans (hb1.mono zZ.out.2.2.size))));clear hb1;have b0:=HST.out.1.at0;have b1:=HST.out.1.at1;have b2:=HST.out.1.at2;have b3:=HST.out.1.at3;have b4:=HST.out.1.at4;have bl:=HST.out.1.lt;have d0:=HST.out.2.1.at0;have dl:=HST.out.2.1.lt;go_wp2_with fail
  refine(HND.out _ HST.out.2.2).mono ?_;rintro e w2 ⟨rfl,hb2⟩;have hbw:=HST.out.2.2.trans (hb2.mono HST.out.2.2.size);go_wp2;go_ret;exact⟨zAD HE.out.symm,hbw⟩
 ·rw[hl]at HLG;have HE:=hid (HC.out.trans (if_pos hl));clear hl HC;go_enter Tryz.func39,Tryz.ntmps39
  go_wp2_with fail
  refine(HLG.out _ zZ.out.2.2).mono ?_;rintro e w1 ⟨rfl,hb1⟩;have hbw:=zZ.out.2.2.trans (hb1.mono zZ.out.2.2.size);go_wp2;go_ret;exact⟨zAD HE.out.symm,hbw⟩
end Go.Proofs.YtonmdbdopchkaaaGreatDoor
