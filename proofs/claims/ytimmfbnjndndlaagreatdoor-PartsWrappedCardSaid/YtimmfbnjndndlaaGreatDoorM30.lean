/- Texts PI. -/
import Derived.Test.YtimmfbnjndndlaaGreatDoorM29
set_option linter.all false
namespace Go.Proofs.YtimmfbnjndndlaaGreatDoor
open Go.RowKit
def identS(s:ByteArray):Bool:=match lexS s with
 |([t],0,_)=>t.kind==1&&decide (t.text=s)
 | _=>false
def NameTok(s:ByteArray)(t:Tok):Prop:=t.kind=1->∃i k,t.text=s.extract i k∧i<k∧k≤s.size∧k-i≤24∧classAt s i=3∧∀j,i≤j->j<k->[3,4,5].contains (classAt s j)=true
theorem nextS_name{s:ByteArray}{i:Nat}(hi:i<s.size):NameTok s (nextS s i).1:=by
 intro hk;unfold nextS at hk⊢;by_cases h3:classAt s i=3
 ·rw[if_pos h3]at hk⊢;by_cases hl:24<runEnd s [3,4,5] i-i
  ·rw[if_pos hl]at hk;simp[tok0]at hk
  ·rw[if_neg hl];obtain⟨h1,h2,h4,h5⟩:=runEnd_spec s [3,4,5] (i:=i) (by omega)
   have hlt:i<runEnd s [3,4,5] i:=by
    rcases Nat.lt_or_ge i (runEnd s [3,4,5] i)with h'|h'
    ·exact h'
    ·(have e:runEnd s [3,4,5] i=i:=by omega);have:=h5 (by omega);rw[e,h3]at this;simp at this
   exact⟨i,_,rfl,hlt,h2,by omega,h3,h4⟩
 ·rw[if_neg h3]at hk;exfalso;revert hk
  repeat' split
  all_goals simp[tok0]
theorem lexT_names{s:ByteArray}:∀f i acc,(∀t∈acc,NameTok s t)->∀t∈(lexT s f i acc).1,NameTok s t
 |0,_,acc,h=>h
 |f+1,i,acc,h=>by
  unfold lexT;by_cases hi:i<s.size
  ·rw[if_pos hi];split
   ·simp
   ·split
    ·simp
    ·refine lexT_names f _ _ (λt ht=> ?_);rw[List.mem_append]at ht;rcases ht with ht|ht
     ·exact h t ht
     ·simp at ht;rw[ht];exact nextS_name hi
  ·rw[if_neg hi];exact h
theorem lexS_names{s:ByteArray}:∀t∈(lexS s).1,NameTok s t:=by
 unfold lexS;split
 ·simp
 ·exact lexT_names _ _ _ (by simp)
theorem classOf_345{b:UInt8}:[3,4,5].contains (classOf b)=(isLetter b||isDig b):=by
 have key:∀n:Fin 256,([3,4,5].contains (classOf (UInt8.ofNat n.val)):Bool)=(isLetter (UInt8.ofNat n.val)||isDig (UInt8.ofNat n.val)):=by decide+kernel
 have:=key ⟨b.toNat,b.toNat_lt⟩;rwa[UInt8.ofNat_toNat]at this
theorem classOf_3{b:UInt8}:classOf b=3↔isLetter b=true:=by
 have key:∀n:Fin 256,decide (classOf (UInt8.ofNat n.val)=3)=isLetter (UInt8.ofNat n.val):=by decide+kernel
 have:=key ⟨b.toNat,b.toNat_lt⟩;rw[UInt8.ofNat_toNat]at this;rw[<-this];simp
theorem isName_iff{s:ByteArray}:isName s.data.toList=true↔0<s.size∧s.size≤24∧classAt s 0=3∧∀j,j<s.size->[3,4,5].contains (classAt s j)=true:=by
 have hl:s.data.toList.length=s.size:=by simp
 constructor
 ·intro h
  cases hs:s.data.toList with
  |nil=>rw[hs]at h;simp[isName]at h
  |cons c r=>
   rw[hs]at h hl;unfold isName at h;rw[Bool.and_eq_true,Bool.and_eq_true]at h;obtain⟨⟨h1,h2⟩,h3⟩:=h;have h0:0<s.size:=by rw[<-hl];simp
   have e0:s[0]=c:=by
    have:=getElem_toList h0;rw[hs]at this;simpa using this.symm
   refine⟨h0,by rw[<-hl];simpa using h3,by rw[classAt_lt h0,e0];exact classOf_3.2 h1,λj hj=> ?_⟩;rw[classAt_lt hj,classOf_345];have ej:=getElem_toList hj;rw[hs]at ej
   cases j with
   |zero=>simp at ej;rw[<-ej,h1];rfl
   |succ j=>simp at ej;exact(List.all_eq_true.1 h2) _ (List.mem_of_getElem? ej)
 ·rintro⟨h0,h24,h3,h⟩
  cases hs:s.data.toList with
  |nil=>rw[hs]at hl;simp at hl;omega
  |cons c r=>
   have e0:s[0]=c:=by
    have:=getElem_toList h0;rw[hs]at this;simpa using this.symm
   unfold isName;rw[classAt_lt h0,e0]at h3;rw[Bool.and_eq_true,Bool.and_eq_true];refine⟨⟨classOf_3.1 h3,?_⟩,?_⟩
   ·rw[List.all_eq_true];intro x hx;obtain⟨j,hj,rfl⟩:=List.getElem_of_mem hx;rw[hs]at hl;(have hj1:j+1<s.size:=by rw[<-hl];simp;omega);have:=h (j+1) hj1;rw[classAt_lt hj1,classOf_345]at this;have ej:=getElem_toList hj1;rw[hs]at ej;simp[hj]at ej;rw[ej];exact this
   ·rw[hs]at hl;simp only[decide_eq_true_eq];omega
theorem extract_all(s:ByteArray):s.extract 0 s.size=s:=by
 have:(s.extract 0 s.size).data.toList =s.data.toList:=by
  rw[Lib.extract_data];simp;exact List.take_of_length_le (by simp)
 cases s;rename_i d;have h2:=Array.toList_inj.1 this;cases he:ByteArray.extract ⟨d⟩ 0 (ByteArray.size ⟨d⟩);rw[he]at h2;simpa using h2
theorem identS_eq(s:ByteArray):identS s=isName s.data.toList:=by
 rw[Bool.eq_iff_iff];constructor
 ·intro h;have hn:=lexS_names (s:=s);unfold identS at h;split at h
  ·rename_i t x heq;rw[Bool.and_eq_true]at h;(have hk:t.kind=1:=by simpa using h.1);(have ht:t.text=s:=by simpa using h.2);obtain⟨i,k,h1,h2,h3,h4,h5,h6⟩:=hn t (by rw[heq];simp) hk;rw[ht]at h1
   have hsz:s.size=k-i:=by
    have:=congrArg ByteArray.size h1;simp at this;omega
   (obtain rfl:i=0:=by omega);(obtain rfl:k=s.size:=by omega);exact isName_iff.2 ⟨h2,by omega,h5,λj hj=>h6 j (Nat.zero_le _) hj⟩
  ·simp at h
 ·intro h;obtain⟨h0,h24,h3,h⟩:=isName_iff.1 h;have hr1:runEnd s [1] 0=0:=runEnd_eq (Nat.le_refl _) (by omega) (λj a b=>by omega) (λ_=>by rw[h3];rfl);have hr2:runEnd s [3,4,5] 0=s.size:=runEnd_eq (Nat.zero_le _) (Nat.le_refl _) (λj _ b=>h j b) (λhh=>absurd hh (Nat.lt_irrefl _));have hr3:runEnd s [1] s.size=s.size:=runEnd_eq (Nat.le_refl _) (Nat.le_refl _) (λj a b=>by omega) (λhh=>absurd hh (Nat.lt_irrefl _))
  have hg0:gapS s 0=0:=by
   unfold gapS;rw[hr1,gapT,if_neg (by rw[h3];decide)]
  have hg1:gapS s s.size=s.size:=by
   unfold gapS;rw[hr3,gapT,if_neg (by rw[classAt_ge (Nat.le_refl _)];decide)]
  have hnx:nextS s 0=(⟨1,0,0,s⟩,(s.size:Int),0):=by
   unfold nextS;rw[if_pos h3,hr2,if_neg (by omega),extract_all];rfl
  have hlex:lexS s=([⟨1,0,0,s⟩],0,0):=by
   unfold lexS;rw[if_neg (by omega),hg0,lexT,if_pos h0,hnx];simp only[List.length_nil,List.nil_append];rw[if_neg (by omega),if_neg (by omega),Int.toNat_natCast,hg1];obtain⟨n,hn⟩:∃n,s.size=n+1:=⟨s.size-1,by omega⟩
   have:∀f acc,lexT s f s.size acc=(acc,0,0):=by
    intro f acc
    cases f with
    |zero=>rfl
    |succ f=>rw[lexT,if_neg (Nat.lt_irrefl _)]
   rw[this]
  unfold identS;rw[hlex];simp
end Go.Proofs.YtimmfbnjndndlaaGreatDoor
