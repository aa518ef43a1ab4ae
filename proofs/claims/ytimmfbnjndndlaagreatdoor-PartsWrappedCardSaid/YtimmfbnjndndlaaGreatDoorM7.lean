/- Texts P PL. -/
import Derived.Test.YtimmfbnjndndlaaGreatDoorM3
import Derived.Lib.Index
set_option linter.all false
namespace Go.Proofs.YtimmfbnjndndlaaGreatDoor
open Go.RowKit
def isLetter(c:UInt8):Bool:=decide (97≤c.toNat∧c.toNat≤122)||decide (65≤c.toNat∧c.toNat≤90)
def isDig(c:UInt8):Bool:=decide (48≤c.toNat∧c.toNat≤57)||decide (c.toNat=95)
def nameAt(l:List UInt8)(i:Nat):Bool:=match l[i]? with|none=>false|some c=>isLetter c||(i !=0&&isDig c)
def nameTo(l:List UInt8)(k:Nat):Prop:=∀j,j<k->nameAt l j=true
def isName(l:List UInt8):Bool:=match l with
 |[]=>false
 |c::r=>isLetter c&&r.all (λc=>isLetter c||isDig c)&&decide (l.length≤24)
theorem nameAt_eq{s:ByteArray}{k:Nat}(hk:k<s.size):nameAt s.data.toList k=decide ((97≤(s[k].toNat :Int)∧(s[k].toNat :Int)≤122)∨(65≤(s[k].toNat :Int)∧(s[k].toNat :Int)≤90)∨(0<k∧((48≤(s[k].toNat :Int)∧(s[k].toNat :Int)≤57)∨(s[k].toNat :Int)=95))):=by
 unfold nameAt;have hl:k<s.data.toList.length:=by simpa using hk
 rw[List.getElem?_eq_getElem hl];have e:s.data.toList[k]=s[k]:=by simp;rfl
 simp only[e,isLetter,isDig];rw[Bool.eq_iff_iff];simp;omega
theorem nameTo_zero(l:List UInt8):nameTo l 0:=λj h=>absurd h (Nat.not_lt_zero j)
theorem nameTo_succ{l:List UInt8}{k:Nat}(h:nameTo l k)(hk:nameAt l k=true):nameTo l (k+1):=λj hj=>by
 rcases Nat.lt_succ_iff_lt_or_eq.1 hj with h'|rfl
 ·exact h j h'
 ·exact hk
theorem isName_false{l:List UInt8}{k:Nat}(hk:k<l.length)(h:nameAt l k=false):isName l=false:=by
 unfold nameAt at h;rw[List.getElem?_eq_getElem hk]at h;simp only at h
 cases l with
 |nil=>rfl
 |cons c r=>
  unfold isName
  cases k with
  |zero=>simp at h;simp[h]
  |succ k=>
   (have hk':k<r.length:=by simpa using hk);have h':¬((isLetter r[k]||isDig r[k])=true):=by simpa using h
   have:(r.all λc=>isLetter c||isDig c)=false:=by
    rw[List.all_eq_false];exact⟨r[k],List.getElem_mem _,h'⟩
   show(isLetter c&&(r.all λc=>isLetter c||isDig c)&&_)=false;rw[this];simp
theorem isName_all{l:List UInt8}(h:nameTo l l.length):isName l=(decide (l≠[])&&decide (l.length≤24)):=by
 cases l with
 |nil=>rfl
 |cons c r=>
  have h0:=h 0 (by simp)
  have hr:(r.all λc=>isLetter c||isDig c)=true:=by
   rw[List.all_eq_true];intro x hx;obtain⟨i,hi,rfl⟩:=List.getElem_of_mem hx;have:=h (i+1) (by simpa using hi);unfold nameAt at this;rw[List.getElem?_eq_getElem (by simpa using hi)]at this;simpa using this
  unfold nameAt at h0;simp at h0;simp[isName,h0];exact λ_ x hx=>by have:=(List.all_eq_true.1 hr) x hx;simpa using this
def factOk(f:FactD):Bool:=
 ((f.kind==1&&f.lo==0&&f.hi==1)||(f.kind==2&&decide (0≤f.lo)&&decide (f.lo≤f.hi)&&decide (f.hi≤1000000)))&&isName f.name.data.toList
def names(ds:List FactD):List ByteArray:=ds.map (·.name)
def validDom(ds:List FactD):Bool:=ds.all factOk&&decide (names ds).Nodup &&decide (ds.length≤60)
def domTo(ds:List FactD)(k:Nat):Prop:=(∀f∈ds.take k,factOk f=true)∧(names (ds.take k)).Nodup
theorem domTo_zero(ds:List FactD):domTo ds 0:=by simp[domTo,names]
theorem take_succ_get{α:Type}{l:List α}{k:Nat}(hk:k<l.length):l.take (k+1)=l.take k++[l[k]]:=by
 rw[List.take_succ_eq_append_getElem hk]
theorem domTo_succ{ds:List FactD}{k:Nat}(hk:k<ds.length)(h:domTo ds k)(h1:factOk ds[k]=true)(h2:ds[k].name ∉names (ds.take k)):domTo ds (k+1):=by
 refine⟨λf hf=> ?_,?_⟩
 ·rw[take_succ_get hk,List.mem_append]at hf;rcases hf with hf|hf
  ·exact h.1 f hf
  ·simp at hf;rw[hf];exact h1
 ·rw[take_succ_get hk];simp only[names,List.map_append,List.map_cons,List.map_nil];rw[List.nodup_append];refine⟨h.2,by simp,λa ha b hb=> ?_⟩;simp at hb;subst hb;exact λe=>h2 (e▸ha)
theorem validDom_bad{ds:List FactD}{k:Nat}(hk:k<ds.length)(h:factOk ds[k]=false∨ds[k].name ∈names (ds.take k)):validDom ds=false:=by
 rcases h with h|h
 ·have:ds.all factOk=false:=by rw[List.all_eq_false];exact⟨ds[k],List.getElem_mem _,by simp[h]⟩
  simp[validDom,this]
 ·have hn:¬(names ds).Nodup :=by
   intro hn;(have e:ds=ds.take k++ds[k]::ds.drop (k+1):=by rw[<-List.drop_eq_getElem_cons hk];exact(List.take_append_drop k ds).symm);rw[e]at hn;simp only[names,List.map_append,List.map_cons]at hn;rw[List.nodup_append]at hn;exact hn.2.2 _ h _ (List.mem_cons_self ..) rfl
  simp[validDom,hn]
theorem validDom_all{ds:List FactD}(h:domTo ds ds.length):validDom ds=decide (ds.length≤60):=by
 unfold domTo at h;rw[List.take_length]at h;have:ds.all factOk=true:=List.all_eq_true.2 h.1;simp[validDom,this,h.2]
theorem fact_bad{nm:ByteArray}{kd lo hi:Int}(h:true=(!(kd==1&&lo==0&&hi==1)&& !(kd==2&&decide (0≤lo)&&decide (lo≤hi)&&decide (hi≤1000000)))):factOk ⟨nm,kd,lo,hi⟩=false:=by
 have h':=h.symm;rw[Bool.and_eq_true,Bool.not_eq_true',Bool.not_eq_true']at h';unfold factOk;simp only[h'.1,h'.2,Bool.or_self,Bool.false_and]
theorem fact_name_bad{nm:ByteArray}{kd lo hi:Int}(h:isName nm.data.toList=false):factOk ⟨nm,kd,lo,hi⟩=false:=by
 simp[factOk,h]
theorem fact_good{nm:ByteArray}{kd lo hi:Int}(h:false=(!(kd==1&&lo==0&&hi==1)&& !(kd==2&&decide (0≤lo)&&decide (lo≤hi)&&decide (hi≤1000000))))(hn:isName nm.data.toList=true):factOk ⟨nm,kd,lo,hi⟩=true:=by
 have h':=h.symm;rw[Bool.and_eq_false_iff,Bool.not_eq_false',Bool.not_eq_false']at h';unfold factOk;rw[hn,Bool.and_true,Bool.or_eq_true];exact h'
theorem toList_beq(a b:ByteArray):(a.toList==b.toList)=decide (a=b):=by
 rw[Bool.eq_iff_iff,ByteArray.toList_eq,ByteArray.toList_eq];simp only[beq_iff_eq,decide_eq_true_eq];constructor
 ·intro h;cases a;cases b;congr 1;exact Array.toList_inj.1 h
 ·rintro rfl;rfl
def nameIs(ds:List FactD)(nm:ByteArray)(i:Nat):Bool:=match ds[i]? with|some f=>decide (f.name=nm)|none=>false
def factIdx(ds:List FactD)(nm:ByteArray):Int:=firstIdx (nameIs ds nm) ds.length 0
def inR(f:FactD)(x:Int):Bool:=decide (f.lo≤x)&&decide (x≤f.hi)
def fits(ds:List FactD)(c:List Int):Bool:=validDom ds&&decide (c.length=ds.length)&&(ds.zip c).all λp=>inR p.1 p.2
def fitTo(ds:List FactD)(c:List Int)(k:Nat):Prop:=∀j(h1:j<ds.length)(h2:j<c.length),j<k->inR ds[j] c[j]=true
theorem fitTo_zero(ds:List FactD)(c:List Int):fitTo ds c 0:=λ_ _ _ h=>absurd h (Nat.not_lt_zero _)
theorem fitTo_succ{ds:List FactD}{c:List Int}{k:Nat}(h:fitTo ds c k)(h1:k<ds.length)(h2:k<c.length)(hk:inR ds[k] c[k]=true):fitTo ds c (k+1):=λj a b hj=>by
 by_cases e:j=k
 ·subst e;exact hk
 ·exact h j a b (by omega)
theorem fits_all{ds:List FactD}{c:List Int}(hv:validDom ds=true)(hl:c.length=ds.length)(h:fitTo ds c ds.length):fits ds c=true:=by
 unfold fits;rw[hv,hl];simp only[decide_true,Bool.true_and];rw[List.all_eq_true];intro p hp;obtain⟨i,hi,rfl⟩:=List.getElem_of_mem hp;simp only[List.length_zip,hl]at hi;rw[List.getElem_zip];exact h i (by omega) (by omega) (by omega)
theorem fits_bad{ds:List FactD}{c:List Int}{k:Nat}(h1:k<ds.length)(h2:k<c.length)(hk:inR ds[k] c[k]=false):fits ds c=false:=by
 unfold fits
 have:((ds.zip c).all λp=>inR p.1 p.2)=false:=by
  rw[List.all_eq_false]
  exact⟨(ds[k],c[k]),by
   have hz:(ds.zip c)[k]'(by simp;omega)=(ds[k],c[k]):=List.getElem_zip
   rw[<-hz];exact List.getElem_mem _,by simp[hk]⟩
 rw[this];simp
def leastOf(ds:List FactD):List Int:=if validDom ds=true then ds.map FactD.lo else[]
theorem leastOf_yes{ds:List FactD}(h:validDom ds=true):leastOf ds=ds.map FactD.lo:=if_pos h
theorem leastOf_no{ds:List FactD}(h:validDom ds=false):leastOf ds=[]:=if_neg (by simp[h])
namespace Fm
def op:Fm->Int| .mk o _ _ _ _=>o
def name:Fm->ByteArray| .mk _ n _ _ _=>n
def cmp:Fm->Int| .mk _ _ c _ _=>c
def num:Fm->Int| .mk _ _ _ n _=>n
def kids:Fm->List Fm| .mk _ _ _ _ k=>k
end Fm
theorem FmR.form{Z:Zone}{w:World}{f:Fm}{cs:List Value}(h:FmR Z w f cs):∃A cap,cs=[.int .i64 f.op,.string f.name,.int .i64 f.cmp,.int .i64 f.num,.slice A f.kids.length cap]:=by
 obtain⟨op,nm,c,n,ks⟩:=f;unfold FmR at h;obtain⟨_,_,_,_,A,cap,e,_⟩:=h;exact⟨A,cap,e⟩
mutual
def fsize:Fm->Nat
 | .mk _ _ _ _ ks=>1+fsizes ks
def fsizes:List Fm->Nat
 |[]=>0
 |k::r=>fsize k+fsizes r
end
mutual
def fdepth:Fm->Nat
 | .mk _ _ _ _ ks=>1+fdepths ks
def fdepths:List Fm->Nat
 |[]=>0
 |k::r=>max (fdepth k) (fdepths r)
end
theorem fsize_eq(f:Fm):fsize f=1+fsizes f.kids:=by cases f;rw[fsize];rfl
theorem fdepth_eq(f:Fm):fdepth f=1+fdepths f.kids:=by cases f;rw[fdepth];rfl
theorem fsize_pos(f:Fm):0<fsize f:=by rw[fsize_eq];omega
theorem fsizes_append(l m:List Fm):fsizes (l++m)=fsizes l+fsizes m:=by
 induction l with
 |nil=>simp[fsizes]
 |cons a r ih=>simp only[List.cons_append,fsizes,ih];omega
theorem fdepths_append(l m:List Fm):fdepths (l++m)=max (fdepths l) (fdepths m):=by
 induction l with
 |nil=>simp[fdepths]
 |cons a r ih=>simp only[List.cons_append,fdepths,ih];omega
theorem fsizes_take_succ{l:List Fm}{k:Nat}(hk:k<l.length):fsizes (l.take (k+1))=fsizes (l.take k)+fsize l[k]:=by
 rw[take_succ_get hk,fsizes_append];simp[fsizes]
theorem fdepths_take_succ{l:List Fm}{k:Nat}(hk:k<l.length):fdepths (l.take (k+1))=max (fdepths (l.take k)) (fdepth l[k]):=by
 rw[take_succ_get hk,fdepths_append];simp[fdepths]
theorem fsizes_take_le(l:List Fm)(k:Nat):fsizes (l.take k)≤fsizes l:=by
 have:=fsizes_append (l.take k) (l.drop k);rw[List.take_append_drop]at this;omega
theorem fdepths_take_le(l:List Fm)(k:Nat):fdepths (l.take k)≤fdepths l:=by
 have:=fdepths_append (l.take k) (l.drop k);rw[List.take_append_drop]at this;omega
theorem fsize_lt{l:List Fm}{k:Nat}(hk:k<l.length):fsize l[k]≤fsizes l:=by
 have h1:=fsizes_take_succ hk;have h2:=fsizes_take_le l (k+1);omega
theorem fsize_kid{f:Fm}{k:Nat}(hk:k<f.kids.length):fsize f.kids[k]<fsize f:=by
 have:=fsize_lt hk;rw[fsize_eq f];omega
theorem fdepth_lt{l:List Fm}{k:Nat}(hk:k<l.length):fdepth l[k]≤fdepths l:=by
 have h1:=fdepths_take_succ hk;have h2:=fdepths_take_le l (k+1);omega
theorem length_le_fsizes(l:List Fm):l.length≤fsizes l:=by
 induction l with
 |nil=>simp[fsizes]
 |cons a r ih=>have:=fsize_pos a;simp only[List.length_cons,fsizes];omega
mutual
theorem fdepth_le_fsize:∀f:Fm,fdepth f≤fsize f
 | .mk _ _ _ _ ks=>by rw[fdepth,fsize];have:=fdepths_le_fsizes ks;omega
theorem fdepths_le_fsizes:∀l:List Fm,fdepths l≤fsizes l
 |[]=>by simp[fdepths]
 |k::r=>by rw[fdepths,fsizes];have:=fdepth_le_fsize k;have:=fdepths_le_fsizes r;have:=fsize_pos k;omega
end
mutual
def firstErr(L:Fm->Int):Fm->Int
 | .mk o nm c n ks=>if L (.mk o nm c n ks)=0 then firstErrs L ks else L (.mk o nm c n ks)
def firstErrs(L:Fm->Int):List Fm->Int
 |[]=>0
 |k::r=>if firstErr L k=0 then firstErrs L r else firstErr L k
end
theorem firstErr_eq(L:Fm->Int)(f:Fm):firstErr L f=if L f=0 then firstErrs L f.kids else L f:=by cases f;rw[firstErr];rfl
theorem firstErrs_append(L:Fm->Int)(l m:List Fm):firstErrs L (l++m)=if firstErrs L l=0 then firstErrs L m else firstErrs L l:=by
 induction l with
 |nil=>simp[firstErrs]
 |cons a r ih=>
  simp only[List.cons_append,firstErrs];by_cases h:firstErr L a=0
  ·simp only[h,if_true,ih]
  ·simp only[if_neg h]
theorem firstErrs_take_succ(L:Fm->Int){l:List Fm}{k:Nat}(hk:k<l.length):firstErrs L (l.take (k+1))=if firstErrs L (l.take k)=0 then firstErr L l[k]else firstErrs L (l.take k):=by
 rw[take_succ_get hk,firstErrs_append];congr 1;simp only[firstErrs];split<;>simp_all
theorem firstErrs_take_stop(L:Fm->Int){l:List Fm}{k:Nat}(h:firstErrs L (l.take k)≠0):firstErrs L l=firstErrs L (l.take k):=by
 have:=firstErrs_append L (l.take k) (l.drop k);rw[List.take_append_drop,if_neg h]at this;exact this
def errTo(L:Fm->Int)(f:Fm)(k:Nat):Int:=if L f=0 then firstErrs L (f.kids.take k)else L f
theorem errTo_zero(L:Fm->Int)(f:Fm):errTo L f 0=L f:=by unfold errTo;split<;>simp_all [firstErrs]
theorem errTo_succ(L:Fm->Int){f:Fm}{k:Nat}(hk:k<f.kids.length)(h:errTo L f k=0):errTo L f (k+1)=firstErr L f.kids[k]:=by
 unfold errTo at h⊢;by_cases h0:L f=0
 ·rw[if_pos h0]at h⊢;rw[firstErrs_take_succ L hk,if_pos h]
 ·rw[if_neg h0]at h;exact absurd h h0
theorem errTo_stop(L:Fm->Int){f:Fm}{k:Nat}(h:errTo L f k≠0):firstErr L f=errTo L f k:=by
 rw[firstErr_eq];unfold errTo at h⊢;by_cases h0:L f=0
 ·rw[if_pos h0]at h⊢;rw[if_pos h0];exact firstErrs_take_stop L h
 ·rw[if_neg h0,if_neg h0]
theorem errTo_all(L:Fm->Int)(f:Fm):errTo L f f.kids.length=firstErr L f:=by
 unfold errTo;rw[firstErr_eq,List.take_length]
def isLarge(f:Fm):Bool:=decide (200<fsize f)||decide (20<fdepth f)
def classOf(b:UInt8):Int:=
 if(97≤b.toNat∧b.toNat≤122)∨(65≤b.toNat∧b.toNat≤90)then 3
 else if 48≤b.toNat∧b.toNat≤57 then 4
 else if b.toNat=95 then 5
 else if b.toNat=32∨b.toNat=9∨b.toNat=10 then 1
 else if b.toNat=35 then 2
 else if b.toNat=34 then 6
 else if b.toNat=33 then 7
 else if b.toNat=60∨b.toNat=62 then 8
 else if b.toNat=59∨b.toNat=44∨b.toNat=46∨b.toNat=58∨b.toNat=40∨b.toNat=41∨b.toNat=91∨b.toNat=93∨b.toNat=123∨b.toNat=125∨b.toNat=61∨b.toNat=43∨b.toNat=45 then 9
 else 0
def setAllI(cur:Array Int)(s:List UInt8)(c:Int):Array Int:=s.foldl (λa b=>a.setIfInBounds b.toNat c) cur
theorem setAllI_size(s:List UInt8)(c:Int):∀cur:Array Int,(setAllI cur s c).size =cur.size:=by
 induction s with
 |nil=>intro cur;rfl
 |cons b r ih=>intro cur;show(setAllI (cur.setIfInBounds b.toNat c) r c).size =_;rw[ih];simp
theorem setAllI_snoc(cur:Array Int)(s:List UInt8)(b:UInt8)(c:Int):setAllI cur (s++[b]) c=(setAllI cur s c).setIfInBounds b.toNat c:=by
 simp[setAllI,List.foldl_append]
def cls0:Array Int:=Array.replicate 256 0
def cls1:=setAllI cls0 [97,98,99,100,101,102,103,104,105,106,107,108,109,110,111,112,113,114,115,116,117,118,119,120,121,122,65,66,67,68,69,70,71,72,73,74,75,76,77,78,79,80,81,82,83,84,85,86,87,88,89,90] 3
def cls2:=setAllI cls1 [48,49,50,51,52,53,54,55,56,57] 4
def cls3:=setAllI cls2 [95] 5
def cls4:=setAllI cls3 [32,9,10] 1
def cls5:=setAllI cls4 [35] 2
def cls6:=setAllI cls5 [34] 6
def cls7:=setAllI cls6 [33] 7
def cls8:=setAllI cls7 [60,62] 8
def cls9:=setAllI cls8 [59,44,46,58,40,41,91,93,123,125,61,43,45] 9
theorem cls9_get:∀i:Fin 256,cls9[i.val]? =some (classOf (UInt8.ofNat i.val)):=by decide+kernel
theorem cls9_size:cls9.size=256:=by
 unfold cls9 cls8 cls7 cls6 cls5 cls4 cls3 cls2 cls1 cls0;simp only[setAllI_size,Array.size_replicate]
theorem cls9_at(b:UInt8):cls9[b.toNat]? =some (classOf b):=by
 have h:=cls9_get ⟨b.toNat,b.toNat_lt⟩;rwa[UInt8.ofNat_toNat]at h
def valsI(c:Array Int):Array Value:=c.map (.int .i64)
theorem valsI_set(c:Array Int)(i:Nat)(n:Int):(valsI c).setIfInBounds i (.int .i64 n)=valsI (c.setIfInBounds i n):=by
 unfold valsI;apply Array.ext_getElem?;intro j;simp only[Array.getElem?_setIfInBounds,Array.getElem?_map,Array.size_map];split
 ·split<;>simp
 ·rfl
theorem valsI_size(c:Array Int):(valsI c).size =c.size:=by simp[valsI]
theorem valsI_get(c:Array Int)(i:Nat):(valsI c)[i]? =c[i]?.map (.int .i64):=by simp[valsI]
theorem valsI_one(c:Array Int):(valsI c).all (·.oneCell')=true:=by
 unfold valsI;rw[Array.all_eq_true];intro i hi;simp[Value.oneCell']
def classAt(s:ByteArray)(i:Nat):Int:=match s.data.toList[i]? with|none=>0|some b=>classOf b
theorem classAt_lt{s:ByteArray}{i:Nat}(h:i<s.size):classAt s i=classOf s[i]:=by
 unfold classAt;have hl:i<s.data.toList.length:=by simpa using h
 rw[List.getElem?_eq_getElem hl];simp;rfl
theorem classAt_ge{s:ByteArray}{i:Nat}(h:s.size≤i):classAt s i=0:=by
 unfold classAt;have hl:s.data.toList.length≤i:=by simpa using h
 rw[List.getElem?_eq_none hl]
def WhileTo(s:ByteArray)(cls:List Int)(i k:Nat):Prop:=i≤k∧∀j,i≤j->j<k->cls.contains (classAt s j)=true
def whileS(s:ByteArray)(cls:List Int)(i:Nat):Nat->Nat
 |0=>i
 |n+1=>if i<s.size∧cls.contains (classAt s i)=true then whileS s cls (i+1) n else i
def runEnd(s:ByteArray)(cls:List Int)(i:Nat):Nat:=whileS s cls i (s.size-i)
theorem whileS_eq{s:ByteArray}{cls:List Int}{k:Nat}:∀{n i:Nat},i≤k->k≤i+n->k≤s.size->(∀j,i≤j->j<k->cls.contains (classAt s j)=true)->(k<s.size->k<i+n->cls.contains (classAt s k)=false)->whileS s cls i n=k
 |0,i,h1,h2,_,_,_=>by unfold whileS;omega
 |n+1,i,h1,h2,h3,h4,h5=>by
  unfold whileS;by_cases e:i=k
  ·subst e;by_cases h:i<s.size
   ·rw[if_neg (by rw[h5 h (by omega)];simp)]
   ·rw[if_neg (λc=>h c.1)]
  ·rw[if_pos ⟨by omega,h4 i (Nat.le_refl _) (by omega)⟩,whileS_eq (by omega) (by omega) h3 (λj a b=>h4 j (by omega) b) (λa b=>h5 a (by omega))]
theorem runEnd_eq{s:ByteArray}{cls:List Int}{i k:Nat}(h1:i≤k)(h3:k≤s.size)(h4:∀j,i≤j->j<k->cls.contains (classAt s j)=true)(h5:k<s.size->cls.contains (classAt s k)=false):runEnd s cls i=k:=
 whileS_eq h1 (by omega) h3 h4 (λa _=>h5 a)
theorem whileS_spec(s:ByteArray)(cls:List Int):∀n i,i≤s.size->i+n=s.size->i≤whileS s cls i n∧whileS s cls i n≤s.size∧(∀j,i≤j->j<whileS s cls i n->cls.contains (classAt s j)=true)∧(whileS s cls i n<s.size->cls.contains (classAt s (whileS s cls i n))=false)
 |0,i,h,he=>by unfold whileS;exact⟨Nat.le_refl _,h,λj a b=>by omega,λhlt=>by omega⟩
 |n+1,i,h,he=>by
  unfold whileS;by_cases hc:i<s.size∧cls.contains (classAt s i)=true
  ·rw[if_pos hc];obtain⟨h1,h2,h3,h4⟩:=whileS_spec s cls n (i+1) (by omega) (by omega);refine⟨by omega,h2,λj a b=> ?_,h4⟩;by_cases e:j=i
   ·subst e;exact hc.2
   ·exact h3 j (by omega) b
  ·rw[if_neg hc];refine⟨Nat.le_refl _,h,λj a b=>by omega,λhlt=> ?_⟩
   cases hb:cls.contains (classAt s i)with
   |true=>exact absurd ⟨hlt,hb⟩ hc
   |false=>rfl
theorem runEnd_spec(s:ByteArray)(cls:List Int){i:Nat}(h:i≤s.size):i≤runEnd s cls i∧runEnd s cls i≤s.size∧(∀j,i≤j->j<runEnd s cls i->cls.contains (classAt s j)=true)∧(runEnd s cls i<s.size->cls.contains (classAt s (runEnd s cls i))=false):=
 whileS_spec s cls _ i h (by omega)
end Go.Proofs.YtimmfbnjndndlaaGreatDoor
