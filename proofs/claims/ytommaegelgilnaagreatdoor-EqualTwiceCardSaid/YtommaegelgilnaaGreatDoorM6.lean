/- Lemmas. -/
import Derived.Test.YtommaegelgilnaaGreatDoorM3
import Derived.Lib.Index
set_option linter.all false
namespace Go.Proofs.YtommaegelgilnaaGreatDoor
open Go.RowKit
variable {c:List Int}{ds:List zE}{f:Fm}{hi kd lo:Int}{i k:Nat}{l:List Fm}{nm s:ByteArray}
def zBy(c:UInt8):Bool:=decide (97<=c.toNat/\c.toNat<=122)||decide (65<=c.toNat/\c.toNat<=90)
def zGR(c:UInt8):Bool:=decide (48<=c.toNat/\c.toNat<=57)||decide (c.toNat=95)
def zFQ(l:List UInt8)(i:Nat):Bool:=match l[i]? with|none=>false|some c=>zBy c||(i !=0&&zGR c)
def zGl(l:List UInt8)(k:Nat):Prop:=∀j,j<k->zFQ l j=true
def zB6(l:List UInt8):Bool:=match l with
 |[]=>false
 |c::r=>zBy c&&r.all (λc=>zBy c||zGR c)&&decide (l.length<=24)
theorem zJS(a:k<s.size):zFQ s.data.toList k=decide ((97<=(s[k].toNat :Int)/\(s[k].toNat :Int)<=122)\/(65<=(s[k].toNat :Int)/\(s[k].toNat :Int)<=90)\/(0<k/\((48<=(s[k].toNat :Int)/\(s[k].toNat :Int)<=57)\/(s[k].toNat :Int)=95))):=by
 unfold zFQ;have b:k<s.data.toList.length:=by simpa using a
 rw[List.getElem?_eq_getElem b];have e:s.data.toList[k]=s[k]:=by simp;rfl
 simp only[e,zBy,zGR];rw[Bool.eq_iff_iff];simp;omega
theorem zHY(l:List UInt8):zGl l 0:=λj h=>absurd h (Nat.not_lt_zero j)
theorem zCK{l:List UInt8}(h:zGl l k)(c:zFQ l k=true):zGl l (k+1):=λj b=>by
 rcases Nat.lt_succ_iff_lt_or_eq.1 b with a|rfl
 ·exact h j a
 ·exact c
theorem zGm{l:List UInt8}(a:k<l.length)(h:zFQ l k=false):zB6 l=false:=by
 unfold zFQ at h;rw[List.getElem?_eq_getElem a]at h;simp only at h
 cases l with
 |nil=>rfl
 |cons c r=>
  unfold zB6
  cases k with
  |zero=>simp at h;simp[h]
  |succ k=>
   (have d:k<r.length:=by simpa using a);have b:¬((zBy r[k]||zGR r[k])=true):=by simpa using h
   have:(r.all λc=>zBy c||zGR c)=false:=by
    rw[List.all_eq_false];exact⟨r[k],List.getElem_mem _,b⟩
   show(zBy c&&(r.all λc=>zBy c||zGR c)&&_)=false;rw[this];simp
theorem zIR{l:List UInt8}(h:zGl l l.length):zB6 l=(decide (l≠[])&&decide (l.length<=24)):=by
 cases l with
 |nil=>rfl
 |cons c r=>
  have a:=h 0 (by simp)
  have d:(r.all λc=>zBy c||zGR c)=true:=by
   rw[List.all_eq_true];intro x b;obtain⟨i,hi,rfl⟩:=List.getElem_of_mem b;have:=h (i+1) (by simpa using hi);unfold zFQ at this;rw[List.getElem?_eq_getElem (by simpa using hi)]at this;simpa using this
  unfold zFQ at a;simp at a;simp[zB6,a];exact λ_ x b=>by have:=(List.all_eq_true.1 d) x b;simpa using this
def zCY(f:zE):Bool:=
 ((f.kind==1&&f.lo==0&&f.hi==1)||(f.kind==2&&decide (0<=f.lo)&&decide (f.lo<=f.hi)&&decide (f.hi<=1000000)))&&zB6 f.name.data.toList
def names(ds:List zE):List ByteArray:=ds.map (·.name)
def zT(ds:List zE):Bool:=ds.all zCY&&decide (names ds).Nodup &&decide (ds.length<=60)
def zIS(ds:List zE)(k:Nat):Prop:=(∀f∈ds.take k,zCY f=true)/\(names (ds.take k)).Nodup
theorem zQs(ds:List zE):zIS ds 0:=by simp[zIS,names]
theorem zXN{α:Type}{l:List α}(a:k<l.length):l.take (k+1)=l.take k++[l[k]]:=by
 rw[List.take_succ_eq_append_getElem a]
theorem zQt(g:k<ds.length)(h:zIS ds k)(i:zCY ds[k]=true)(j:ds[k].name ∉names (ds.take k)):zIS ds (k+1):=by
 refine⟨λf c=> ?_,?_⟩
 ·rw[zXN g,List.mem_append]at c;rcases c with c|c
  ·exact h.1 f c
  ·simp at c;rw[c];exact i
 ·rw[zXN g];simp only[names,List.map_append,List.map_cons,List.map_nil];rw[List.nodup_append];refine⟨h.2,by simp,λa m b d=> ?_⟩;simp at d;subst d;exact λe=>j (e▸m)
theorem zOS(b:k<ds.length)(h:zCY ds[k]=false\/ds[k].name ∈names (ds.take k)):zT ds=false:=by
 rcases h with h|h
 ·have:ds.all zCY=false:=by rw[List.all_eq_false];exact⟨ds[k],List.getElem_mem _,by simp[h]⟩
  simp[zT,this]
 ·have a:¬(names ds).Nodup :=by
   intro a;(have e:ds=ds.take k++ds[k]::ds.drop (k+1):=by rw[<-List.drop_eq_getElem_cons b];exact(List.take_append_drop k ds).symm);rw[e]at a;simp only[names,List.map_append,List.map_cons]at a;rw[List.nodup_append]at a;exact a.2.2 _ h _ (List.mem_cons_self ..) rfl
  simp[zT,a]
theorem zOT(h:zIS ds ds.length):zT ds=decide (ds.length<=60):=by
 unfold zIS at h;rw[List.take_length]at h;have:ds.all zCY=true:=List.all_eq_true.2 h.1;simp[zT,this,h.2]
theorem zTN(h:true=(!(kd==1&&lo==0&&hi==1)&& !(kd==2&&decide (0<=lo)&&decide (lo<=hi)&&decide (hi<=1000000)))):zCY ⟨nm,kd,lo,hi⟩=false:=by
 have a:=h.symm;rw[Bool.and_eq_true,Bool.not_eq_true',Bool.not_eq_true']at a;unfold zCY;simp only[a.1,a.2,Bool.or_self,Bool.false_and]
theorem zNB(h:zB6 nm.data.toList=false):zCY ⟨nm,kd,lo,hi⟩=false:=by
 simp[zCY,h]
theorem zSN(h:false=(!(kd==1&&lo==0&&hi==1)&& !(kd==2&&decide (0<=lo)&&decide (lo<=hi)&&decide (hi<=1000000))))(b:zB6 nm.data.toList=true):zCY ⟨nm,kd,lo,hi⟩=true:=by
 have a:=h.symm;rw[Bool.and_eq_false_iff,Bool.not_eq_false',Bool.not_eq_false']at a;unfold zCY;rw[b,Bool.and_true,Bool.or_eq_true];exact a
theorem zBK(a b:ByteArray):(a.toList==b.toList)=decide (a=b):=by
 rw[Bool.eq_iff_iff,ByteArray.toList_eq,ByteArray.toList_eq];simp only[beq_iff_eq,decide_eq_true_eq];constructor
 ·intro h;cases a;cases b;congr 1;exact Array.toList_inj.1 h
 ·rintro rfl;rfl
def zFR(ds:List zE)(nm:ByteArray)(i:Nat):Bool:=match ds[i]? with|some f=>decide (f.name=nm)|none=>false
def zBD(ds:List zE)(nm:ByteArray):Int:=firstIdx (zFR ds nm) ds.length 0
def inR(f:zE)(x:Int):Bool:=decide (f.lo<=x)&&decide (x<=f.hi)
def fits(ds:List zE)(c:List Int):Bool:=zT ds&&decide (c.length=ds.length)&&(ds.zip c).all λp=>inR p.1 p.2
def zL0(ds:List zE)(c:List Int)(k:Nat):Prop:=∀j(h1:j<ds.length)(h2:j<c.length),j<k->inR ds[j] c[j]=true
theorem zQu(ds:List zE)(c:List Int):zL0 ds c 0:=λ_ _ _ h=>absurd h (Nat.not_lt_zero _)
theorem zQv(h:zL0 ds c k)(f:k<ds.length)(g:k<c.length)(d:inR ds[k] c[k]=true):zL0 ds c (k+1):=λj a b i=>by
 by_cases e:j=k
 ·subst e;exact d
 ·exact h j a b (by omega)
theorem zTO(d:zT ds=true)(a:c.length=ds.length)(h:zL0 ds c ds.length):fits ds c=true:=by
 unfold fits;rw[d,a];simp only[decide_true,Bool.true_and];rw[List.all_eq_true];intro p b;obtain⟨i,hi,rfl⟩:=List.getElem_of_mem b;simp only[List.length_zip,a]at hi;rw[List.getElem_zip];exact h i (by omega) (by omega) (by omega)
theorem zTP(d:k<ds.length)(e:k<c.length)(a:inR ds[k] c[k]=false):fits ds c=false:=by
 unfold fits
 have:((ds.zip c).all λp=>inR p.1 p.2)=false:=by
  rw[List.all_eq_false]
  exact⟨(ds[k],c[k]),by
   have b:(ds.zip c)[k]'(by simp;omega)=(ds[k],c[k]):=List.getElem_zip
   rw[<-b];exact List.getElem_mem _,by simp[a]⟩
 rw[this];simp
def zCG(ds:List zE):List Int:=if zT ds=true then ds.map zE.lo else[]
theorem zDk(h:zT ds=true):zCG ds=ds.map zE.lo:=if_pos h
theorem zQw(h:zT ds=false):zCG ds=[]:=if_neg (by simp[h])
namespace Fm
def op:Fm->Int| .mk o _ _ _ _=>o
def name:Fm->ByteArray| .mk _ n _ _ _=>n
def cmp:Fm->Int| .mk _ _ c _ _=>c
def num:Fm->Int| .mk _ _ _ n _=>n
def kids:Fm->List Fm| .mk _ _ _ _ k=>k
end Fm
theorem FmR.form{Z:zD}{w:World}{cs:List Value}(h:FmR Z w f cs):∃A cap,cs=[.int .i64 f.op,.string f.name,.int .i64 f.cmp,.int .i64 f.num,.slice A f.kids.length cap]:=by
 obtain⟨op,nm,c,n,a⟩:=f;unfold FmR at h;obtain⟨_,_,_,_,A,cap,e,_⟩:=h;exact⟨A,cap,e⟩
mutual
def zH:Fm->Nat
 | .mk _ _ _ _ ks=>1+zV ks
def zV:List Fm->Nat
 |[]=>0
 |k::r=>zH k+zV r
end
mutual
def zCv:Fm->Nat
 | .mk _ _ _ _ ks=>1+zBE ks
def zBE:List Fm->Nat
 |[]=>0
 |k::r=>max (zCv k) (zBE r)
end
theorem zCQ(f:Fm):zH f=1+zV f.kids:=by cases f;rw[zH];rfl
theorem zMh(f:Fm):zCv f=1+zBE f.kids:=by cases f;rw[zCv];rfl
theorem zCH(f:Fm):0<zH f:=by rw[zCQ];omega
theorem zI4(l m:List Fm):zV (l++m)=zV l+zV m:=by
 induction l with
 |nil=>simp[zV]
 |cons a r ih=>simp only[List.cons_append,zV,ih];omega
theorem zHc(l m:List Fm):zBE (l++m)=max (zBE l) (zBE m):=by
 induction l with
 |nil=>simp[zBE]
 |cons a r ih=>simp only[List.cons_append,zBE,ih];omega
theorem zBX(a:k<l.length):zV (l.take (k+1))=zV (l.take k)+zH l[k]:=by
 rw[zXN a,zI4];simp[zV]
theorem zGE(a:k<l.length):zBE (l.take (k+1))=max (zBE (l.take k)) (zCv l[k]):=by
 rw[zXN a,zHc];simp[zBE]
theorem zB3(l:List Fm)(k:Nat):zV (l.take k)<=zV l:=by
 have:=zI4 (l.take k) (l.drop k);rw[List.take_append_drop]at this;omega
theorem zHI(l:List Fm)(k:Nat):zBE (l.take k)<=zBE l:=by
 have:=zHc (l.take k) (l.drop k);rw[List.take_append_drop]at this;omega
theorem zBz(a:k<l.length):zH l[k]<=zV l:=by
 have b:=zBX a;have c:=zB3 l (k+1);omega
theorem zFr(a:k<f.kids.length):zH f.kids[k]<zH f:=by
 have:=zBz a;rw[zCQ f];omega
theorem zSO(a:k<l.length):zCv l[k]<=zBE l:=by
 have b:=zGE a;have c:=zHI l (k+1);omega
theorem zCA(l:List Fm):l.length<=zV l:=by
 induction l with
 |nil=>simp[zV]
 |cons a r ih=>have:=zCH a;simp only[List.length_cons,zV];omega
mutual
theorem zHJ:∀f:Fm,zCv f<=zH f
 | .mk _ _ _ _ ks=>by rw[zCv,zH];have:=zGF ks;omega
theorem zGF:∀l:List Fm,zBE l<=zV l
 |[]=>by simp[zBE]
 |k::r=>by rw[zBE,zV];have:=zHJ k;have:=zGF r;have:=zCH k;omega
end
mutual
def zA0(L:Fm->Int):Fm->Int
 | .mk o nm c n ks=>if L (.mk o nm c n ks)=0 then zAZ L ks else L (.mk o nm c n ks)
def zAZ(L:Fm->Int):List Fm->Int
 |[]=>0
 |k::r=>if zA0 L k=0 then zAZ L r else zA0 L k
end
theorem zFd(L:Fm->Int)(f:Fm):zA0 L f=if L f=0 then zAZ L f.kids else L f:=by cases f;rw[zA0];rfl
theorem zGn(L:Fm->Int)(l m:List Fm):zAZ L (l++m)=if zAZ L l=0 then zAZ L m else zAZ L l:=by
 induction l with
 |nil=>simp[zAZ]
 |cons a r ih=>
  simp only[List.cons_append,zAZ];by_cases h:zA0 L a=0
  ·simp only[h,if_true,ih]
  ·simp only[if_neg h]
theorem zI5(L:Fm->Int)(a:k<l.length):zAZ L (l.take (k+1))=if zAZ L (l.take k)=0 then zA0 L l[k]else zAZ L (l.take k):=by
 rw[zXN a,zGn];congr 1;simp only[zAZ];split<;>simp_all
theorem zI6(L:Fm->Int)(h:zAZ L (l.take k)≠0):zAZ L l=zAZ L (l.take k):=by
 have:=zGn L (l.take k) (l.drop k);rw[List.take_append_drop,if_neg h]at this;exact this
def zDs(L:Fm->Int)(f:Fm)(k:Nat):Int:=if L f=0 then zAZ L (f.kids.take k)else L f
theorem zQx(L:Fm->Int)(f:Fm):zDs L f 0=L f:=by unfold zDs;split<;>simp_all [zAZ]
theorem zQy(L:Fm->Int)(b:k<f.kids.length)(h:zDs L f k=0):zDs L f (k+1)=zA0 L f.kids[k]:=by
 unfold zDs at h⊢;by_cases a:L f=0
 ·rw[if_pos a]at h⊢;rw[zI5 L b,if_pos h]
 ·rw[if_neg a]at h;exact absurd h a
theorem zQz(L:Fm->Int)(h:zDs L f k≠0):zA0 L f=zDs L f k:=by
 rw[zFd];unfold zDs at h⊢;by_cases a:L f=0
 ·rw[if_pos a]at h⊢;rw[if_pos a];exact zI6 L h
 ·rw[if_neg a,if_neg a]
theorem zSP(L:Fm->Int)(f:Fm):zDs L f f.kids.length=zA0 L f:=by
 unfold zDs;rw[zFd,List.take_length]
def zDl(f:Fm):Bool:=decide (200<zH f)||decide (20<zCv f)
def zCb(b:UInt8):Int:=
 if(97<=b.toNat/\b.toNat<=122)\/(65<=b.toNat/\b.toNat<=90)then 3
 else if 48<=b.toNat/\b.toNat<=57 then 4
 else if b.toNat=95 then 5
 else if b.toNat=32\/b.toNat=9\/b.toNat=10 then 1
 else if b.toNat=35 then 2
 else if b.toNat=34 then 6
 else if b.toNat=33 then 7
 else if b.toNat=60\/b.toNat=62 then 8
 else if b.toNat=59\/b.toNat=44\/b.toNat=46\/b.toNat=58\/b.toNat=40\/b.toNat=41\/b.toNat=91\/b.toNat=93\/b.toNat=123\/b.toNat=125\/b.toNat=61\/b.toNat=43\/b.toNat=45 then 9
 else 0
def zCI(cur:Array Int)(s:List UInt8)(c:Int):Array Int:=s.foldl (λa b=>a.setIfInBounds b.toNat c) cur
theorem zBv(s:List UInt8)(c:Int):∀cur:Array Int,(zCI cur s c).size =cur.size:=by
 induction s with
 |nil=>intro cur;rfl
 |cons b r ih=>intro cur;show(zCI (cur.setIfInBounds b.toNat c) r c).size =_;rw[ih];simp
theorem zOU(cur:Array Int)(s:List UInt8)(b:UInt8)(c:Int):zCI cur (s++[b]) c=(zCI cur s c).setIfInBounds b.toNat c:=by
 simp[zCI,List.foldl_append]
def zDX:Array Int:=Array.replicate 256 0
def zGD:=zCI zDX [97,98,99,100,101,102,103,104,105,106,107,108,109,110,111,112,113,114,115,116,117,118,119,120,121,122,65,66,67,68,69,70,71,72,73,74,75,76,77,78,79,80,81,82,83,84,85,86,87,88,89,90] 3
def zGo:=zCI zGD [48,49,50,51,52,53,54,55,56,57] 4
def zHZ:=zCI zGo [95] 5
def zIT:=zCI zHZ [32,9,10] 1
def zJT:=zCI zIT [35] 2
def zKZ:=zCI zJT [34] 6
def zLv:=zCI zKZ [33] 7
def zOV:=zCI zLv [60,62] 8
def zFS:=zCI zOV [59,44,46,58,40,41,91,93,123,125,61,43,45] 9
theorem zTQ:∀i:Fin 256,zFS[i.val]? =some (zCb (UInt8.ofNat i.val)):=by decide+kernel
theorem zHK:zFS.size=256:=by
 unfold zFS zOV zLv zKZ zJT zIT zHZ zGo zGD zDX;simp only[zBv,Array.size_replicate]
theorem zTz(b:UInt8):zFS[b.toNat]? =some (zCb b):=by
 have h:=zTQ ⟨b.toNat,b.toNat_lt⟩;rwa[UInt8.ofNat_toNat]at h
def zAw(c:Array Int):Array Value:=c.map (.int .i64)
theorem zSQ(c:Array Int)(i:Nat)(n:Int):(zAw c).setIfInBounds i (.int .i64 n)=zAw (c.setIfInBounds i n):=by
 unfold zAw;apply Array.ext_getElem?;intro j;simp only[Array.getElem?_setIfInBounds,Array.getElem?_map,Array.size_map];split
 ·split<;>simp
 ·rfl
theorem zEV(c:Array Int):(zAw c).size =c.size:=by simp[zAw]
theorem zSR(c:Array Int)(i:Nat):(zAw c)[i]? =c[i]?.map (.int .i64):=by simp[zAw]
theorem zMi(c:Array Int):(zAw c).all (·.oneCell')=true:=by
 unfold zAw;rw[Array.all_eq_true];intro i hi;simp[Value.oneCell']
def zL(s:ByteArray)(i:Nat):Int:=match s.data.toList[i]? with|none=>0|some b=>zCb b
theorem zD8(h:i<s.size):zL s i=zCb s[i]:=by
 unfold zL;have a:i<s.data.toList.length:=by simpa using h
 rw[List.getElem?_eq_getElem a];simp;rfl
theorem zGS(h:s.size<=i):zL s i=0:=by
 unfold zL;have a:s.data.toList.length<=i:=by simpa using h
 rw[List.getElem?_eq_none a]
def zDg(s:ByteArray)(cls:List Int)(i:Nat):Nat->Nat
 |0=>i
 |n+1=>if i<s.size/\cls.contains (zL s i)=true then zDg s cls (i+1) n else i
def zXO(s:ByteArray)(cls:List Int)(i:Nat):Nat:=zDg s cls i (s.size-i)
theorem zMj{s:ByteArray}{d:List Int}{k:Nat}:∀{n i:Nat},i<=k->k<=i+n->k<=s.size->(∀j,i<=j->j<k->d.contains (zL s j)=true)->(k<s.size->k<i+n->d.contains (zL s k)=false)->zDg s d i n=k
 |0,i,h1,h2,_,_,_=>by unfold zDg;omega
 |n+1,i,h1,h2,h3,h4,h5=>by
  unfold zDg;by_cases e:i=k
  ·subst e;by_cases h:i<s.size
   ·rw[if_neg (by rw[h5 h (by omega)];simp)]
   ·rw[if_neg (λc=>h c.1)]
  ·rw[if_pos ⟨by omega,h4 i (Nat.le_refl _) (by omega)⟩,zMj (by omega) (by omega) h3 (λj a b=>h4 j (by omega) b) (λa b=>h5 a (by omega))]
theorem zFs{b:List Int}(c:i<=k)(d:k<=s.size)(e:∀j,i<=j->j<k->b.contains (zL s j)=true)(f:k<s.size->b.contains (zL s k)=false):zXO s b i=k:=
 zMj c (by omega) d e (λa _=>f a)
theorem zJx(s:ByteArray)(c:List Int):∀n i,i<=s.size->i+n=s.size->i<=zDg s c i n/\zDg s c i n<=s.size/\(∀j,i<=j->j<zDg s c i n->c.contains (zL s j)=true)/\(zDg s c i n<s.size->c.contains (zL s (zDg s c i n))=false)
 |0,i,h,he=>by unfold zDg;exact⟨Nat.le_refl _,h,λj a b=>by omega,λd=>by omega⟩
 |n+1,i,h,he=>by
  unfold zDg;by_cases f:i<s.size/\c.contains (zL s i)=true
  ·rw[if_pos f];obtain⟨q,g,k,m⟩:=zJx s c n (i+1) (by omega) (by omega);refine⟨by omega,g,λj a b=> ?_,m⟩;by_cases e:j=i
   ·subst e;exact f.2
   ·exact k j (by omega) b
  ·rw[if_neg f];refine⟨Nat.le_refl _,h,λj a b=>by omega,λd=> ?_⟩
   cases o:c.contains (zL s i)with
   |true=>exact absurd ⟨d,o⟩ f
   |false=>rfl
theorem zCL(s:ByteArray)(a:List Int)(h:i<=s.size):i<=zXO s a i/\zXO s a i<=s.size/\(∀j,i<=j->j<zXO s a i->a.contains (zL s j)=true)/\(zXO s a i<s.size->a.contains (zL s (zXO s a i))=false):=
 zJx s a _ i h (by omega)
end Go.Proofs.YtommaegelgilnaaGreatDoor
