/- Texts P PL. -/
import Derived.Test.YtonmdbdopchkaaaGreatDoorM1
import Derived.Lib.Index
set_option linter.all false
namespace Go.Proofs.YtonmdbdopchkaaaGreatDoor
open Go.RowKit
def zv(c:UInt8):Bool:=decide (97≤c.toNat∧c.toNat≤122)||decide (65≤c.toNat∧c.toNat≤90)
def zBs(c:UInt8):Bool:=decide (48≤c.toNat∧c.toNat≤57)||decide (c.toNat=95)
def zFR(l:List UInt8)(i:Nat):Bool:=match l[i]? with|none=>false|some c=>zv c||(i !=0&&zBs c)
def zIL(l:List UInt8)(k:Nat):Prop:=∀j,j<k->zFR l j=true
def zA7(l:List UInt8):Bool:=match l with
 |[]=>false
 |c::r=>zv c&&r.all (λc=>zv c||zBs c)&&decide (l.length≤24)
theorem zR6{s:ByteArray}{k:Nat}(hk:k<s.size):zFR s.data.toList k=decide ((97≤(s[k].toNat :Int)∧(s[k].toNat :Int)≤122)∨(65≤(s[k].toNat :Int)∧(s[k].toNat :Int)≤90)∨(0<k∧((48≤(s[k].toNat :Int)∧(s[k].toNat :Int)≤57)∨(s[k].toNat :Int)=95))):=by
 unfold zFR;have hl:k<s.data.toList.length:=by simpa using hk
 rw[List.getElem?_eq_getElem hl];have e:s.data.toList[k]=s[k]:=by simp;rfl
 simp only[e,zv,zBs];rw[Bool.eq_iff_iff];simp;omega
theorem zPD(l:List UInt8):zIL l 0:=λj h=>absurd h (Nat.not_lt_zero j)
theorem zPE{l:List UInt8}{k:Nat}(h:zIL l k)(hk:zFR l k=true):zIL l (k+1):=λj hj=>by
 rcases Nat.lt_succ_iff_lt_or_eq.1 hj with h'|rfl
 ·exact h j h'
 ·exact hk
theorem zNa{l:List UInt8}{k:Nat}(hk:k<l.length)(h:zFR l k=false):zA7 l=false:=by
 unfold zFR at h;rw[List.getElem?_eq_getElem hk]at h;simp only at h
 cases l with
 |nil=>rfl
 |cons c r=>
  unfold zA7
  cases k with
  |zero=>simp at h;simp[h]
  |succ k=>
   (have hk':k<r.length:=by simpa using hk);have h':¬((zv r[k]||zBs r[k])=true):=by simpa using h
   have:(r.all λc=>zv c||zBs c)=false:=by
    rw[List.all_eq_false];exact⟨r[k],List.getElem_mem _,h'⟩
   show(zv c&&(r.all λc=>zv c||zBs c)&&_)=false;rw[this];simp
theorem zQR{l:List UInt8}(h:zIL l l.length):zA7 l=(decide (l≠[])&&decide (l.length≤24)):=by
 cases l with
 |nil=>rfl
 |cons c r=>
  have h0:=h 0 (by simp)
  have hr:(r.all λc=>zv c||zBs c)=true:=by
   rw[List.all_eq_true];intro x hx;obtain⟨i,hi,rfl⟩:=List.getElem_of_mem hx;have:=h (i+1) (by simpa using hi);unfold zFR at this;rw[List.getElem?_eq_getElem (by simpa using hi)]at this;simpa using this
  unfold zFR at h0;simp at h0;simp[zA7,h0];exact λ_ x hx=>by have:=(List.all_eq_true.1 hr) x hx;simpa using this
def zAv(f:zC):Bool:=
 ((f.kind==1&&f.lo==0&&f.hi==1)||(f.kind==2&&decide (0≤f.lo)&&decide (f.lo≤f.hi)&&decide (f.hi≤1000000)))&&zA7 f.name.data.toList
def names(ds:List zC):List ByteArray:=ds.map (·.name)
def zR(ds:List zC):Bool:=ds.all zAv&&decide (names ds).Nodup &&decide (ds.length≤60)
def zFq(ds:List zC)(k:Nat):Prop:=(∀f∈ds.take k,zAv f=true)∧(names (ds.take k)).Nodup
theorem zK1(ds:List zC):zFq ds 0:=by simp[zFq,names]
theorem zAw{α:Type}{l:List α}{k:Nat}(hk:k<l.length):l.take (k+1)=l.take k++[l[k]]:=by
 rw[List.take_succ_eq_append_getElem hk]
theorem zK2{ds:List zC}{k:Nat}(hk:k<ds.length)(h:zFq ds k)(h1:zAv ds[k]=true)(h2:ds[k].name ∉names (ds.take k)):zFq ds (k+1):=by
 refine⟨λf hf=> ?_,?_⟩
 ·rw[zAw hk,List.mem_append]at hf;rcases hf with hf|hf
  ·exact h.1 f hf
  ·simp at hf;rw[hf];exact h1
 ·rw[zAw hk];simp only[names,List.map_append,List.map_cons,List.map_nil];rw[List.nodup_append];refine⟨h.2,by simp,λa ha b hb=> ?_⟩;simp at hb;subst hb;exact λe=>h2 (e▸ha)
theorem zIM{ds:List zC}{k:Nat}(hk:k<ds.length)(h:zAv ds[k]=false∨ds[k].name ∈names (ds.take k)):zR ds=false:=by
 rcases h with h|h
 ·have:ds.all zAv=false:=by rw[List.all_eq_false];exact⟨ds[k],List.getElem_mem _,by simp[h]⟩
  simp[zR,this]
 ·have hn:¬(names ds).Nodup :=by
   intro hn;(have e:ds=ds.take k++ds[k]::ds.drop (k+1):=by rw[<-List.drop_eq_getElem_cons hk];exact(List.take_append_drop k ds).symm);rw[e]at hn;simp only[names,List.map_append,List.map_cons]at hn;rw[List.nodup_append]at hn;exact hn.2.2 _ h _ (List.mem_cons_self ..) rfl
  simp[zR,hn]
theorem zNb{ds:List zC}(h:zFq ds ds.length):zR ds=decide (ds.length≤60):=by
 unfold zFq at h;rw[List.take_length]at h;have:ds.all zAv=true:=List.all_eq_true.2 h.1;simp[zR,this,h.2]
theorem zSo{nm:ByteArray}{kd lo hi:Int}(h:true=(!(kd==1&&lo==0&&hi==1)&& !(kd==2&&decide (0≤lo)&&decide (lo≤hi)&&decide (hi≤1000000)))):zAv ⟨nm,kd,lo,hi⟩=false:=by
 have h':=h.symm;rw[Bool.and_eq_true,Bool.not_eq_true',Bool.not_eq_true']at h';unfold zAv;simp only[h'.1,h'.2,Bool.or_self,Bool.false_and]
theorem zNN{nm:ByteArray}{kd lo hi:Int}(h:zA7 nm.data.toList=false):zAv ⟨nm,kd,lo,hi⟩=false:=by
 simp[zAv,h]
theorem zR7{nm:ByteArray}{kd lo hi:Int}(h:false=(!(kd==1&&lo==0&&hi==1)&& !(kd==2&&decide (0≤lo)&&decide (lo≤hi)&&decide (hi≤1000000))))(hn:zA7 nm.data.toList=true):zAv ⟨nm,kd,lo,hi⟩=true:=by
 have h':=h.symm;rw[Bool.and_eq_false_iff,Bool.not_eq_false',Bool.not_eq_false']at h';unfold zAv;rw[hn,Bool.and_true,Bool.or_eq_true];exact h'
theorem zAq(a b:ByteArray):(a.toList==b.toList)=decide (a=b):=by
 rw[Bool.eq_iff_iff,ByteArray.toList_eq,ByteArray.toList_eq];simp only[beq_iff_eq,decide_eq_true_eq];constructor
 ·intro h;cases a;cases b;congr 1;exact Array.toList_inj.1 h
 ·rintro rfl;rfl
def zEH(ds:List zC)(nm:ByteArray)(i:Nat):Bool:=match ds[i]? with|some f=>decide (f.name=nm)|none=>false
def zV(ds:List zC)(nm:ByteArray):Int:=firstIdx (zEH ds nm) ds.length 0
def zBA(ds:List zC):List Int:=if zR ds=true then ds.map zC.lo else[]
theorem zCm{ds:List zC}(h:zR ds=true):zBA ds=ds.map zC.lo:=if_pos h
theorem zQS{ds:List zC}(h:zR ds=false):zBA ds=[]:=if_neg (by simp[h])
namespace Fm
def op:Fm->Int| .mk o _ _ _ _=>o
def name:Fm->ByteArray| .mk _ n _ _ _=>n
def cmp:Fm->Int| .mk _ _ c _ _=>c
def num:Fm->Int| .mk _ _ _ n _=>n
def kids:Fm->List Fm| .mk _ _ _ _ k=>k
end Fm
theorem FmR.form{Z:zD}{w:World}{f:Fm}{cs:List Value}(h:FmR Z w f cs):∃A cap,cs=[.int .i64 f.op,.string f.name,.int .i64 f.cmp,.int .i64 f.num,.slice A f.kids.length cap]:=by
 obtain⟨op,nm,c,n,ks⟩:=f;unfold FmR at h;obtain⟨_,_,_,_,A,cap,e,_⟩:=h;exact⟨A,cap,e⟩
mutual
def zJ:Fm->Nat
 | .mk _ _ _ _ ks=>1+zX ks
def zX:List Fm->Nat
 |[]=>0
 |k::r=>zJ k+zX r
end
mutual
def zAx:Fm->Nat
 | .mk _ _ _ _ ks=>1+zz ks
def zz:List Fm->Nat
 |[]=>0
 |k::r=>max (zAx k) (zz r)
end
theorem zBM(f:Fm):zJ f=1+zX f.kids:=by cases f;rw[zJ];rfl
theorem zIN(f:Fm):zAx f=1+zz f.kids:=by cases f;rw[zAx];rfl
theorem zBE(f:Fm):0<zJ f:=by rw[zBM];omega
theorem zHr(l m:List Fm):zX (l++m)=zX l+zX m:=by
 induction l with
 |nil=>simp[zX]
 |cons a r ih=>simp only[List.cons_append,zX,ih];omega
theorem zHL(l m:List Fm):zz (l++m)=max (zz l) (zz m):=by
 induction l with
 |nil=>simp[zz]
 |cons a r ih=>simp only[List.cons_append,zz,ih];omega
theorem zAL{l:List Fm}{k:Nat}(hk:k<l.length):zX (l.take (k+1))=zX (l.take k)+zJ l[k]:=by
 rw[zAw hk,zHr];simp[zX]
theorem zFf{l:List Fm}{k:Nat}(hk:k<l.length):zz (l.take (k+1))=max (zz (l.take k)) (zAx l[k]):=by
 rw[zAw hk,zHL];simp[zz]
theorem zAU(l:List Fm)(k:Nat):zX (l.take k)≤zX l:=by
 have:=zHr (l.take k) (l.drop k);rw[List.take_append_drop]at this;omega
theorem zG9(l:List Fm)(k:Nat):zz (l.take k)≤zz l:=by
 have:=zHL (l.take k) (l.drop k);rw[List.take_append_drop]at this;omega
theorem zAY{l:List Fm}{k:Nat}(hk:k<l.length):zJ l[k]≤zX l:=by
 have h1:=zAL hk;have h2:=zAU l (k+1);omega
theorem zIO{f:Fm}{k:Nat}(hk:k<f.kids.length):zJ f.kids[k]<zJ f:=by
 have:=zAY hk;rw[zBM f];omega
theorem zR8{l:List Fm}{k:Nat}(hk:k<l.length):zAx l[k]≤zz l:=by
 have h1:=zFf hk;have h2:=zG9 l (k+1);omega
theorem zA8(l:List Fm):l.length≤zX l:=by
 induction l with
 |nil=>simp[zX]
 |cons a r ih=>have:=zBE a;simp only[List.length_cons,zX];omega
mutual
theorem zGa:∀f:Fm,zAx f≤zJ f
 | .mk _ _ _ _ ks=>by rw[zAx,zJ];have:=zFg ks;omega
theorem zFg:∀l:List Fm,zz l≤zX l
 |[]=>by simp[zz]
 |k::r=>by rw[zz,zX];have:=zGa k;have:=zFg r;have:=zBE k;omega
end
mutual
def zq(L:Fm->Int):Fm->Int
 | .mk o nm c n ks=>if L (.mk o nm c n ks)=0 then z6 L ks else L (.mk o nm c n ks)
def z6(L:Fm->Int):List Fm->Int
 |[]=>0
 |k::r=>if zq L k=0 then z6 L r else zq L k
end
theorem zEI(L:Fm->Int)(f:Fm):zq L f=if L f=0 then z6 L f.kids else L f:=by cases f;rw[zq];rfl
theorem zDK(L:Fm->Int)(l m:List Fm):z6 L (l++m)=if z6 L l=0 then z6 L m else z6 L l:=by
 induction l with
 |nil=>simp[z6]
 |cons a r ih=>
  simp only[List.cons_append,z6];by_cases h:zq L a=0
  ·simp only[h,if_true,ih]
  ·simp only[if_neg h]
theorem zIH(L:Fm->Int){l:List Fm}{k:Nat}(hk:k<l.length):z6 L (l.take (k+1))=if z6 L (l.take k)=0 then zq L l[k]else z6 L (l.take k):=by
 rw[zAw hk,zDK];congr 1;simp only[z6];split<;>simp_all
theorem zII(L:Fm->Int){l:List Fm}{k:Nat}(h:z6 L (l.take k)≠0):z6 L l=z6 L (l.take k):=by
 have:=zDK L (l.take k) (l.drop k);rw[List.take_append_drop,if_neg h]at this;exact this
def zD3(L:Fm->Int)(f:Fm)(k:Nat):Int:=if L f=0 then z6 L (f.kids.take k)else L f
theorem zQT(L:Fm->Int)(f:Fm):zD3 L f 0=L f:=by unfold zD3;split<;>simp_all [z6]
theorem zQU(L:Fm->Int){f:Fm}{k:Nat}(hk:k<f.kids.length)(h:zD3 L f k=0):zD3 L f (k+1)=zq L f.kids[k]:=by
 unfold zD3 at h⊢;by_cases h0:L f=0
 ·rw[if_pos h0]at h⊢;rw[zIH L hk,if_pos h]
 ·rw[if_neg h0]at h;exact absurd h h0
theorem zQV(L:Fm->Int){f:Fm}{k:Nat}(h:zD3 L f k≠0):zq L f=zD3 L f k:=by
 rw[zEI];unfold zD3 at h⊢;by_cases h0:L f=0
 ·rw[if_pos h0]at h⊢;rw[if_pos h0];exact zII L h
 ·rw[if_neg h0,if_neg h0]
theorem zR9(L:Fm->Int)(f:Fm):zD3 L f f.kids.length=zq L f:=by
 unfold zD3;rw[zEI,List.take_length]
def zCD(f:Fm):Bool:=decide (200<zJ f)||decide (20<zAx f)
def zCE(b:UInt8):Int:=
 if(97≤b.toNat∧b.toNat≤122)∨(65≤b.toNat∧b.toNat≤90)then 3
 else if 48≤b.toNat∧b.toNat≤57 then 4
 else if b.toNat=95 then 5
 else if b.toNat=32∨b.toNat=9∨b.toNat=10 then 1
 else if b.toNat=35 then 2
 else if b.toNat=34 then 6
 else if b.toNat=33 then 7
 else if b.toNat=60∨b.toNat=62 then 8
 else if b.toNat=59∨b.toNat=44∨b.toNat=46∨b.toNat=58∨b.toNat=40∨b.toNat=41∨b.toNat=91∨b.toNat=93∨b.toNat=123∨b.toNat=125∨b.toNat=61∨b.toNat=43∨b.toNat=45 then 9
 else 0
def zBc(cur:Array Int)(s:List UInt8)(c:Int):Array Int:=s.foldl (λa b=>a.setIfInBounds b.toNat c) cur
theorem zBY(s:List UInt8)(c:Int):∀cur:Array Int,(zBc cur s c).size =cur.size:=by
 induction s with
 |nil=>intro cur;rfl
 |cons b r ih=>intro cur;show(zBc (cur.setIfInBounds b.toNat c) r c).size =_;rw[ih];simp
theorem zNc(cur:Array Int)(s:List UInt8)(b:UInt8)(c:Int):zBc cur (s++[b]) c=(zBc cur s c).setIfInBounds b.toNat c:=by
 simp[zBc,List.foldl_append]
def zCv:Array Int:=Array.replicate 256 0
def zF6:=zBc zCv [97,98,99,100,101,102,103,104,105,106,107,108,109,110,111,112,113,114,115,116,117,118,119,120,121,122,65,66,67,68,69,70,71,72,73,74,75,76,77,78,79,80,81,82,83,84,85,86,87,88,89,90] 3
def zGJ:=zBc zF6 [48,49,50,51,52,53,54,55,56,57] 4
def zHB:=zBc zGJ [95] 5
def zH0:=zBc zHB [32,9,10] 1
def zIP:=zBc zH0 [35] 2
def zJu:=zBc zIP [34] 6
def zL7:=zBc zJu [33] 7
def zNd:=zBc zL7 [60,62] 8
def zEf:=zBc zNd [59,44,46,58,40,41,91,93,123,125,61,43,45] 9
theorem zSp:∀i:Fin 256,zEf[i.val]? =some (zCE (UInt8.ofNat i.val)):=by decide+kernel
theorem zGb:zEf.size=256:=by
 unfold zEf zNd zL7 zJu zIP zH0 zHB zGJ zF6 zCv;simp only[zBY,Array.size_replicate]
theorem zUD(b:UInt8):zEf[b.toNat]? =some (zCE b):=by
 have h:=zSp ⟨b.toNat,b.toNat_lt⟩;rwa[UInt8.ofNat_toNat]at h
def zA4(c:Array Int):Array Value:=c.map (.int .i64)
theorem zRa(c:Array Int)(i:Nat)(n:Int):(zA4 c).setIfInBounds i (.int .i64 n)=zA4 (c.setIfInBounds i n):=by
 unfold zA4;apply Array.ext_getElem?;intro j;simp only[Array.getElem?_setIfInBounds,Array.getElem?_map,Array.size_map];split
 ·split<;>simp
 ·rfl
theorem zDr(c:Array Int):(zA4 c).size =c.size:=by simp[zA4]
theorem zRb(c:Array Int)(i:Nat):(zA4 c)[i]? =c[i]?.map (.int .i64):=by simp[zA4]
theorem zMC(c:Array Int):(zA4 c).all (·.oneCell')=true:=by
 unfold zA4;rw[Array.all_eq_true];intro i hi;simp[Value.oneCell']
def zP(s:ByteArray)(i:Nat):Int:=match s.data.toList[i]? with|none=>0|some b=>zCE b
theorem zDL{s:ByteArray}{i:Nat}(h:i<s.size):zP s i=zCE s[i]:=by
 unfold zP;have hl:i<s.data.toList.length:=by simpa using h
 rw[List.getElem?_eq_getElem hl];simp;rfl
theorem zFr{s:ByteArray}{i:Nat}(h:s.size≤i):zP s i=0:=by
 unfold zP;have hl:s.data.toList.length≤i:=by simpa using h
 rw[List.getElem?_eq_none hl]
def zDS(s:ByteArray)(cls:List Int)(i:Nat):Nat->Nat
 |0=>i
 |n+1=>if i<s.size∧cls.contains (zP s i)=true then zDS s cls (i+1) n else i
def zm(s:ByteArray)(cls:List Int)(i:Nat):Nat:=zDS s cls i (s.size-i)
theorem zMD{s:ByteArray}{cls:List Int}{k:Nat}:∀{n i:Nat},i≤k->k≤i+n->k≤s.size->(∀j,i≤j->j<k->cls.contains (zP s j)=true)->(k<s.size->k<i+n->cls.contains (zP s k)=false)->zDS s cls i n=k
 |0,i,h1,h2,_,_,_=>by unfold zDS;omega
 |n+1,i,h1,h2,h3,h4,h5=>by
  unfold zDS;by_cases e:i=k
  ·subst e;by_cases h:i<s.size
   ·rw[if_neg (by rw[h5 h (by omega)];simp)]
   ·rw[if_neg (λc=>h c.1)]
  ·rw[if_pos ⟨by omega,h4 i (Nat.le_refl _) (by omega)⟩,zMD (by omega) (by omega) h3 (λj a b=>h4 j (by omega) b) (λa b=>h5 a (by omega))]
theorem zFS{s:ByteArray}{cls:List Int}{i k:Nat}(h1:i≤k)(h3:k≤s.size)(h4:∀j,i≤j->j<k->cls.contains (zP s j)=true)(h5:k<s.size->cls.contains (zP s k)=false):zm s cls i=k:=
 zMD h1 (by omega) h3 h4 (λa _=>h5 a)
theorem zJY(s:ByteArray)(cls:List Int):∀n i,i≤s.size->i+n=s.size->i≤zDS s cls i n∧zDS s cls i n≤s.size∧(∀j,i≤j->j<zDS s cls i n->cls.contains (zP s j)=true)∧(zDS s cls i n<s.size->cls.contains (zP s (zDS s cls i n))=false)
 |0,i,h,he=>by unfold zDS;exact⟨Nat.le_refl _,h,λj a b=>by omega,λhlt=>by omega⟩
 |n+1,i,h,he=>by
  unfold zDS;by_cases hc:i<s.size∧cls.contains (zP s i)=true
  ·rw[if_pos hc];obtain⟨h1,h2,h3,h4⟩:=zJY s cls n (i+1) (by omega) (by omega);refine⟨by omega,h2,λj a b=> ?_,h4⟩;by_cases e:j=i
   ·subst e;exact hc.2
   ·exact h3 j (by omega) b
  ·rw[if_neg hc];refine⟨Nat.le_refl _,h,λj a b=>by omega,λhlt=> ?_⟩
   cases hb:cls.contains (zP s i)with
   |true=>exact absurd ⟨hlt,hb⟩ hc
   |false=>rfl
theorem zBf(s:ByteArray)(cls:List Int){i:Nat}(h:i≤s.size):i≤zm s cls i∧zm s cls i≤s.size∧(∀j,i≤j->j<zm s cls i->cls.contains (zP s j)=true)∧(zm s cls i<s.size->cls.contains (zP s (zm s cls i))=false):=
 zJY s cls _ i h (by omega)
end Go.Proofs.YtonmdbdopchkaaaGreatDoor
