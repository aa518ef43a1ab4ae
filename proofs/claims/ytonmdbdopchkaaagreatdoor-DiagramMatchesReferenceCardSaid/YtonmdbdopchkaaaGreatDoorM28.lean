/- Texts CG. -/
import Derived.Test.YtonmdbdopchkaaaGreatDoorM25
import Derived.Test.YtonmdbdopchkaaaGreatDoorM27
set_option linter.all false
namespace Go.Proofs.YtonmdbdopchkaaaGreatDoor
open Go.RowKit
structure GSt where
 all:List zB
 done:List (List UInt8 × Int)
 full:Bool
def zK(f:Fm)(x:zC):List Int:=x.lo::zD2 (((z7 x.name f).flatMap λn=>[n,n+1]).filter λn=>decide (x.lo<n)&&decide (n≤x.hi))
def zBW(b full:Bool)(st:GSt):Int × GSt:=((zW st.all ⟨b,0,[],[]⟩).1,⟨(zW st.all ⟨b,0,[],[]⟩).2,st.done,full⟩)
def zo:List zC->Nat->Fm->GSt->Int × GSt
 |[],_,f,st=>if f.op=1∨f.op=2 then zBW (decide (f.op=1)) st.full st else zBW false (st.full||decide (4000<st.all.length)) st
 |x::rest,i,f,st=>
  if f.op=1∨f.op=2 then zBW (decide (f.op=1)) st.full st
  else if(st.full||decide (4000<st.all.length))=true then zBW false true st
  else match kvI st.done (zCH i f)with
   |some k=>(k,st)
   |none=>
    let r:=zH (λv st=>zo rest (i+1) (zU x.name v f) st) (zK f x) st;let o:=zb r.2.all i (zK f x) r.1
    (o.1,⟨o.2,zCI r.2.done (zCH i f) o.1,r.2.full⟩)
theorem zI3(b full:Bool)(st:GSt):∃t,(zBW b full st).2.all =st.all++t:=zDH _ _
theorem zGe{f:Int->GSt->Int × GSt}(h:∀v st,∃t,(f v st).2.all =st.all++t):∀(l:List Int)(st:GSt),∃t,(zH f l st).2.all =st.all++t
 |[],st=>⟨[],by simp[zH]⟩
 |v::l,st=>zDC (h v st) (zGe h l _)
theorem zFD:∀(rest:List zC)(i:Nat)(f:Fm)(st:GSt),∃t,(zo rest i f st).2.all =st.all++t
 |[],i,f,st=>by
  unfold zo;split<;>exact zI3 _ _ _
 |x::rest,i,f,st=>by
  unfold zo;split
  ·exact zI3 _ _ _
  ·split
   ·exact zI3 _ _ _
   ·split
    ·exact⟨[],by simp⟩
    ·exact zDC (zGe (λv st=>zFD rest _ _ st) _ st) (zDB _ _ _ _)
theorem zKl{f:Int->GSt->Int × GSt}(h:∀v st,(f v st).2.full =false->st.full=false):∀(l:List Int)(st:GSt),(zH f l st).2.full =false->st.full=false
 |[],_,h=>h
 |v::l,st,hh=>h v st (zKl h l _ hh)
theorem zRo:∀(rest:List zC)(i:Nat)(f:Fm)(st:GSt),(zo rest i f st).2.full =false->st.full=false
 |[],i,f,st,h=>by
  unfold zo at h;split at h
  ·exact h
  ·unfold zBW at h;simp only[Bool.or_eq_false_iff]at h;exact h.1
 |x::rest,i,f,st,h=>by
  unfold zo at h;split at h
  ·exact h
  ·split at h
   ·unfold zBW at h;cases h
   ·rename_i hf;simp only[Bool.or_eq_true,not_or,Bool.not_eq_true]at hf;exact hf.1
theorem zKm{ds:List zC}{nm:ByteArray}:zV ds nm<ds.length:=by
 unfold zV;rcases zDP (zEH ds nm) ds.length 0 with⟨k,_,h,_,_,e⟩|⟨_,e⟩<;>omega
theorem zDM{ds:List zC}{nm:ByteArray}{i:Nat}(hi:i<ds.length):zEH ds nm i=decide ((ds.getD i zAA).name =nm):=by
 unfold zEH;rw[List.getElem?_eq_getElem hi,List.getD_eq_getElem?_getD,List.getElem?_eq_getElem hi];rfl
theorem zGP{ds:List zC}{nm:ByteArray}{i:Nat}(h:zV ds nm=i):(ds.getD i zAA).name =nm:=by
 unfold zV at h;rcases zDP (zEH ds nm) ds.length 0 with⟨k,_,hk,hp,_,e⟩|⟨_,e⟩
 ·have:k=i:=by omega
  subst this;rw[zDM (by omega)]at hp;simpa using hp
 ·omega
theorem zGQ{ds:List zC}(hd:zR ds=true){i:Nat}(hi:i<ds.length):zV ds (ds.getD i zAA).name =i:=by
 unfold zV;refine zCS (λj _ hj=> ?_) (Nat.zero_le _) (by omega) (by rw[zDM hi];simp);rw[zDM (by omega)];simp only[decide_eq_false_iff_not];intro e;unfold zR at hd;simp only[Bool.and_eq_true,decide_eq_true_eq]at hd;have hn:=hd.1.2;unfold names at hn
 have h1:(ds.map (·.name))[j]? =some (ds.getD j zAA).name :=by
  rw[List.getElem?_map,List.getElem?_eq_getElem (by omega),List.getD_eq_getElem?_getD,List.getElem?_eq_getElem (by omega)];rfl
 have h2:(ds.map (·.name))[i]? =some (ds.getD i zAA).name :=by
  rw[List.getElem?_map,List.getElem?_eq_getElem hi,List.getD_eq_getElem?_getD,List.getElem?_eq_getElem hi];rfl
 have:=(List.getElem?_inj (by simpa using(show j<ds.length by omega)) hn).1 (h1.trans (by rw[e,h2]));omega
section grow
variable {ds:List zC}
structure zI4 (ds:List zC) (all:List zB) (i:Nat) (f:Fm) (r:Int):Prop where
 rng:Rng all r
 says:∀c,Fit ds c->S ds all r c=evF ds c f
 low:(nAt all r).kids ≠[]->(i:Int)≤(nAt all r).fact
theorem zI4.app{all all':List zB}{i:Nat}{f:Fm}{r:Int}(h:zI4 ds all i f r)(hg:Good ds all)(hg':Good ds all')(hp:∃t,all'=all++t):zI4 ds all' i f r:=by
 obtain⟨t,rfl⟩:=hp;exact⟨h.rng.app t,λc hc=>by rw[zIt hg hg' h.rng];exact h.says c hc,by rw[zE7 h.rng];exact h.low⟩
structure GInv (ds:List zC) (st:GSt):Prop where
 good:Good ds st.all
 done:∀p∈st.done,∃i f,p.1=zCH i f∧zCg f=true∧zI4 ds st.all i f p.2
theorem zKn{st:GSt}(h:GInv ds st)(b full:Bool){i:Nat}{f:Fm}(hf:∀c,evF ds c f=b):GInv ds (zBW b full st).2∧zI4 ds (zBW b full st).2.all i f (zBW b full st).1:=by
 obtain⟨M,hat⟩:=zFX h.good (n:=⟨b,0,[],[]⟩) (Or.inl ⟨rfl,rfl,rfl⟩);refine⟨⟨M.good,λp hp=> ?_⟩,M.rng,λc _=> ?_,λhk=>absurd (by rw[show(zBW b full st).2.all =(zW st.all ⟨b,0,[],[]⟩).2 from rfl,show(zBW b full st).1=(zW st.all ⟨b,0,[],[]⟩).1 from rfl,hat]) hk⟩
 ·obtain⟨i,f,e,hp',F⟩:=h.done p hp;exact⟨i,f,e,hp',F.app h.good M.good M.pre⟩
 ·show S ds (zW st.all ⟨b,0,[],[]⟩).2 (zW st.all ⟨b,0,[],[]⟩).1 c=_;rw[M.good.S_leaf (by rw[hat]),hat,hf c]
theorem zH4{rest:List Int}{lo v:Int}:(lo::rest).getD (nx rest v) 0=zn lo rest (nx rest v):=by
 unfold zn;split
 ·rename_i h0;rw[h0];rfl
 ·rename_i h0;obtain⟨q,hq⟩:∃q,nx rest v=q+1:=⟨nx rest v-1,by omega⟩;rw[hq];simp
theorem zFu(f:Fm)(x:zC):zk x.lo x.hi (zD2 (((z7 x.name f).flatMap λn=>[n,n+1]).filter λn=>decide (x.lo<n)&&decide (n≤x.hi))):=
 zE1 λv hv=>by
  have:=(List.mem_filter.1 hv).2;simpa using this
theorem zPK{f:Fm}{x:zC}{v y:Int}(h0:x.lo≤v)(h1:v≤x.hi)(hy:y=zn x.lo (zD2 (((z7 x.name f).flatMap λn=>[n,n+1]).filter λn=>decide (x.lo<n)&&decide (n≤x.hi))) (nx (zD2 (((z7 x.name f).flatMap λn=>[n,n+1]).filter λn=>decide (x.lo<n)&&decide (n≤x.hi))) v)):
  ∀n∈z7 x.name f,(y<n↔v<n)∧(y<n+1↔v<n+1):=by
 have ha:=zFu f x;have hle:=zCj ha h0;have hgap:=λz hz=>zCt (v:=v) (x:=z) ha hz
 have hlo:x.lo≤y:=by
  rw[hy];exact(zIr ha (by omega) (zCs _ _)).1
 rw[<-hy]at hle hgap
 have key:∀m,(∃n∈z7 x.name f,m=n∨m=n+1)->(y<m↔v<m):=λm hm=>by
  by_cases hr:x.lo<m∧m≤x.hi
  ·have hmem:m∈zD2 (((z7 x.name f).flatMap λn=>[n,n+1]).filter λn=>decide (x.lo<n)&&decide (n≤x.hi)):=by
    rw[zCb,List.mem_filter,List.mem_flatMap];obtain⟨n,hn,e⟩:=hm;exact⟨⟨n,hn,by rcases e with rfl|rfl<;>simp⟩,by simp[hr]⟩
   exact⟨λh=>hgap m hmem h,λh=>by omega⟩
  ·omega
 exact λn hn=>⟨key n ⟨n,hn,Or.inl rfl⟩,key (n+1) ⟨n,hn,Or.inr rfl⟩⟩
theorem zGf(hd:zR ds=true):∀(rest:List zC)(i:Nat)(f:Fm)(st:GSt),rest=ds.drop i->i≤ds.length->okF ds f->zIX f->(∀n∈zAC f,(i:Int)≤zV ds n)->GInv ds st->
  (zo rest i f st).2.full =false->GInv ds (zo rest i f st).2∧zI4 ds (zo rest i f st).2.all i f (zo rest i f st).1
 |[],i,f,st,hr,hi,hok,hred,hnm,hst,hfull=>by
  unfold zo at hfull⊢;by_cases hc:f.op=1∨f.op=2
  ·rw[if_pos hc];(refine zKn hst _ _ λc=> ?_);rcases hc with h|h
   ·rw[zE2 h,h];rfl
   ·rw[zE3 h,h];rfl
  ·exfalso;rcases hred with h|h
   ·exact hc h
   ·have hne:=zMO f h
    cases hn:zAC f with
    |nil=>exact hne hn
    |cons n r=>
     have h1:=hnm n (by rw[hn];simp);have h2:=zKm (ds:=ds) (nm:=n)
     have h3:ds.length≤i:=by
      have:=congrArg List.length hr;simp at this;omega
     omega
 |x::rest,i,f,st,hr,hi,hok,hred,hnm,hst,hfull=>by
  have hlt:i<ds.length:=by
   have:=congrArg List.length hr;simp at this;omega
  have hx:ds.getD i zAA=x:=by
   have:=congrArg (λl=>l.getD 0 zAA) hr;simp[List.getD_eq_getElem?_getD]at this;rw[List.getD_eq_getElem?_getD];exact this.symm
  have hrest:rest=ds.drop (i+1):=by
   have:=congrArg List.tail hr;simpa using this
  unfold zo at hfull⊢;by_cases hc:f.op=1∨f.op=2
  ·rw[if_pos hc];(refine zKn hst _ _ λc=> ?_);rcases hc with h|h
   ·rw[zE2 h,h];rfl
   ·rw[zE3 h,h];rfl
  ·rw[if_neg hc]at hfull⊢;by_cases hfl:(st.full||decide (4000<st.all.length))=true
   ·rw[if_pos hfl]at hfull;cases hfull
   ·rw[if_neg hfl]at hfull⊢
    cases hkv:kvI st.done (zCH i f)with
    |some k=>
     simp only;obtain⟨i',f',e,hp,F⟩:=hst.done _ (zHJ hkv);simp only at e F;obtain⟨rfl,rfl⟩:=zTZ (zFC f hok) hp e;exact⟨hst,F⟩
    |none=>
     simp only[hkv]at hfull⊢
     have hkid:∀(l:List Int)(st:GSt),GInv ds st->(zH (λv st=>zo rest (i+1) (zU x.name v f) st) l st).2.full =false->
       GInv ds (zH (λv st=>zo rest (i+1) (zU x.name v f) st) l st).2∧
       ∀j,j<l.length->zI4 ds (zH (λv st=>zo rest (i+1) (zU x.name v f) st) l st).2.all (i+1) (zU x.name (l.getD j 0) f) ((zH (λv st=>zo rest (i+1) (zU x.name v f) st) l st).1.getD j 0):=by
      intro l
      induction l with
      |nil=>intro st hst _;exact⟨hst,λj hj=>absurd hj (by simp)⟩
      |cons v l ih=>
       intro st hst hfl;have hf1:=zKl (f:=λv st=>zo rest (i+1) (zU x.name v f) st) (λv st h=>zRo rest _ _ st h) l _ hfl;have hp1:=zGe (f:=λv st=>zo rest (i+1) (zU x.name v f) st) (λv st=>zFD rest _ _ st) l (zo rest (i+1) (zU x.name v f) st).2
       obtain⟨A1,F1⟩:=zGf hd rest (i+1) (zU x.name v f) st hrest (by omega) (zCn f hok) (zFT f hok) (λn hn=>by
        obtain⟨hm,hne⟩:=zJ5 f hok n hn;have h1:=hnm n hm;by_cases e:zV ds n=i
        ·exact absurd (by rw[<-zGP e,hx]) hne
        ·omega) hst hf1
       obtain⟨A2,F2⟩:=ih _ A1 hfl;refine⟨A2,λj hj=> ?_⟩
       cases j with
       |zero=>exact F1.app A1.good A2.good hp1
       |succ j=>exact F2 j (by simpa using hj)
     obtain⟨A1,F1⟩:=hkid (zK f x) st hst hfull;have hlk:=zA6 (f:=λv st=>zo rest (i+1) (zU x.name v f) st) (zK f x) st;(have hside:=λv y h0 h1 hy=>zPK (f:=f) (x:=x) (v:=v) (y:=y) h0 h1 hy);have hasc:=zFu f x;unfold zK at A1 F1 hlk⊢;generalize zD2 (((z7 x.name f).flatMap λn=>[n,n+1]).filter λn=>decide (x.lo<n)&&decide (n≤x.hi))=rs at*;generalize zH (λv st=>zo rest (i+1) (zU x.name v f) st) (x.lo::rs) st=r at*;obtain⟨kids,st'⟩:=r;simp only at A1 F1 hlk⊢
     cases kids with
     |nil=>simp at hlk
     |cons k0 ks=>
      have hlk':rs.length=ks.length:=by simpa using hlk.symm
      have hF1:∀q∈k0::ks,∃j,j<(x.lo::rs).length ∧q=(k0::ks).getD j 0:=λq hq=>by
       obtain⟨j,hj,rfl⟩:=List.getElem_of_mem hq;exact⟨j,by simp only[List.length_cons]at hj⊢;omega,by rw[List.getD_eq_getElem?_getD,List.getElem?_eq_getElem hj];rfl⟩
      have hI:=zFz A1.good hlt hlk' (by rw[hx];exact hasc) (λq hq=>by obtain⟨j,hj,rfl⟩:=hF1 q hq;exact(F1 j hj).rng) (λq hq hqk=>by
       obtain⟨j,hj,rfl⟩:=hF1 q hq;have:=(F1 j hj).low hqk
       omega)
      rw[hx]at hI;obtain⟨M,hS,hlow⟩:=hI;generalize zb st'.all i (x.lo::rs) (k0::ks)=o at*
      have hF:zI4 ds o.2 i f o.1:=by
       refine⟨M.rng,λc hc=> ?_,hlow⟩;rw[hS c];have hle:=zCs rs (c.getD i 0);rw[(F1 (nx rs (c.getD i 0)) (by simp only[List.length_cons];omega)).says c hc];have hfit:=hc.2 i hlt;rw[hx]at hfit;have hself:=zGQ hd hlt;rw[hx]at hself;(refine zIY f hok λn hn=> ?_);rw[hself,Int.toNat_natCast];exact hside (c.getD i 0) _ hfit.1 hfit.2 zH4 n hn
      refine⟨⟨M.good,λp hp=> ?_⟩,hF⟩;rcases zDp hp with hp|hp
      ·obtain⟨i',f',e,hpl,F⟩:=A1.done p hp;exact⟨i',f',e,hpl,F.app A1.good M.good M.pre⟩
      ·subst hp;exact⟨i,f,rfl,zFC f hok,hF⟩
end grow
def zVd(l:List ByteArray):List ByteArray:=l.foldl (λks n=>if ks.any (λk=>decide (k=n))=true then ks else ks++[n]) []
def zBo(f:Fm):Nat:=(zVd (zAC f)).length
def zBu(ds:List zC)(f:Fm):List zB × Int:=
 if zR ds=false∨zBN ds f≠0 then([],1)
 else if 24<zBo f then([],2)
 else
  let r:=zo ds 0 (zU ⟨#[]⟩ 0 f) ⟨[],[],false⟩
  if r.2.full=true then([],2)
  else if 4000<(zAQ ds r.2.all r.1).length then([],2)
  else(zAQ ds r.2.all r.1,0)
theorem zTA{ds:List zC}{f:Fm}{g:List zB}(h:zBu ds f=(g,0)):
  zAp ds g∧(∀c,Fit ds c->S ds g 0 c=evF ds c f):=by
 unfold zBu at h;split at h
 ·injection h with _ h;exact absurd h (by decide)
 ·rename_i hv;simp only[not_or,Bool.not_eq_false,ne_eq,Decidable.not_not]at hv;obtain⟨hd,hck⟩:=hv;have hok:okF ds f:=(zDX hck).2;split at h
  ·injection h with _ h;exact absurd h (by decide)
  ·simp only at h;split at h
   ·injection h with _ h;exact absurd h (by decide)
   ·rename_i hfull;split at h
    ·injection h with _ h;exact absurd h (by decide)
    ·rename_i hlen;injection h with h _;have hst:GInv ds ⟨[],[],false⟩:=⟨Good.nil ds,λp hp=>absurd hp (by simp)⟩;obtain⟨A,F⟩:=zGf hd ds 0 (zU ⟨#[]⟩ 0 f) ⟨[],[],false⟩ (by simp) (Nat.zero_le _) (zCn f hok) (zFT f hok) (λn hn=>zGO _ (zCn f hok) n hn) hst (by simpa using hfull);subst h;refine⟨zJV hd A.good F.rng (by omega),λc hc=> ?_⟩;rw[zLo A.good F.rng,F.says c hc];(refine zIY f hok λn hn=> ?_);exfalso
     have:∀f:Fm,okF ds f->z7 ⟨#[]⟩ f=[]:=by
      intro f
      induction hs:zJ f using Nat.strongRecOn generalizing f with
      | _ m ih=>
       intro hok;obtain⟨op,nm,cm,nu,kids⟩:=f;obtain⟨hf,hks,_⟩:=zEh hok;rw[z7]
       have h0:¬(op=3∧nm=⟨#[]⟩):=λ⟨h3,e⟩=>by
        rcases zBh hf with⟨_,_,_,_,hn⟩|⟨_,h⟩
        ·simp only[Fm.name]at hn;rw[e]at hn;simp[zA7]at hn
        ·simp only[Fm.op]at h;omega
       rw[if_neg h0,List.nil_append]
       have:∀l:List Fm,(∀k∈l,zJ k<m)->zD0 ds l->zj ⟨#[]⟩ l=[]:=by
        intro l
        induction l with
        |nil=>intro _ _;rfl
        |cons k r ih2=>
         intro hl hok;rw[zCP]at hok;rw[zj,ih (zJ k) (hl k (by simp)) k rfl hok.1,ih2 (λk hk=>hl k (by simp[hk])) hok.2];rfl
       refine this kids (λk hk=> ?_) hks;have h1:=zMN hk;rw[zJ]at hs;omega
     rw[this f hok]at hn;simp at hn
end Go.Proofs.YtonmdbdopchkaaaGreatDoor
