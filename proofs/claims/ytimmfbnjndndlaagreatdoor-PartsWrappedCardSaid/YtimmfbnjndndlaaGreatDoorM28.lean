/- Texts W9. -/
import Derived.Test.YtimmfbnjndndlaaGreatDoorM18
import Derived.Test.YtimmfbnjndndlaaGreatDoorM17
set_option linter.all false
namespace Go.Proofs.YtimmfbnjndndlaaGreatDoor
open Go.RowKit
set_option maxHeartbeats 1000000
set_option maxRecDepth 100000
structure Tok where
 kind:Int
 pos:Int
 num:Int
 text:ByteArray
def Tok.cells(t:Tok):List Value:=[.int .i64 t.kind,.int .i64 t.pos,.int .i64 t.num,.string t.text]
def tok0:Tok:=⟨0,0,0,⟨#[]⟩⟩
def numOf(s:ByteArray):Int:=(Lib.atoi s.data.toList).getD 0
def nextS(s:ByteArray)(i:Nat):Tok × Int × Int:=
 if classAt s i=3 then
  (if 24<runEnd s [3,4,5] i-i then((tok0,0,2):Tok × Int × Int)else(⟨1,i,0,s.extract i (runEnd s [3,4,5] i)⟩,((runEnd s [3,4,5] i:Nat):Int),0):Tok × Int × Int)
 else if classAt s i=4 then
  (if 13<runEnd s [4] i-i∨classAt s (runEnd s [4] i)=3∨classAt s (runEnd s [4] i)=5 then(tok0,0,4)else(⟨2,i,numOf (s.extract i (runEnd s [4] i)),s.extract i (runEnd s [4] i)⟩,runEnd s [4] i,0))
 else if classAt s i=6 then
  (if Lib.indexAny (s.extract (i+1) s.size).data.toList [34,10]<0∨(s.extract (i+1) s.size).data.toList[(Lib.indexAny (s.extract (i+1) s.size).data.toList [34,10]).toNat]? =some 10 then(tok0,0,6)
   else if 400<Lib.indexAny (s.extract (i+1) s.size).data.toList [34,10]then(tok0,0,2)
   else(⟨3,i,0,(s.extract (i+1) s.size).extract 0 (Lib.indexAny (s.extract (i+1) s.size).data.toList [34,10]).toNat⟩,i+Lib.indexAny (s.extract (i+1) s.size).data.toList [34,10]+2,0))
 else if classAt s i=7∨classAt s i=8 then
  (if Lib.hasPrefix (s.extract (i+1) s.size).data.toList [61]=true then(⟨4,i,0,s.extract i (i+2)⟩,i+2,0)
   else if classAt s i=7 then(tok0,0,3)else(⟨4,i,0,s.extract i (i+1)⟩,i+1,0))
 else if classAt s i=9 then(⟨4,i,0,s.extract i (i+1)⟩,i+1,0)
 else(tok0,0,3)
def NextPost(s:ByteArray)(i:Nat)(w:World)(e:Ending)(w':World):Prop:=
 e= .returned (.tuple #[.agg (Tok.cells (nextS s i).1).toArray,.int .i64 (nextS s i).2.1,.int .i64 (nextS s i).2.2])∧Below w.heap.size w w'
theorem nextPost_mk{s:ByteArray}{i:Nat}{w w':World}{t:Tok}{n e:Int}(h:nextS s i=(t,n,e))(hb:Below w.heap.size w w'):
  NextPost s i w (.returned (.tuple #[.agg (Tok.cells t).toArray,.int .i64 n,.int .i64 e])) w':=by
 unfold NextPost;rw[h];exact⟨rfl,hb⟩
theorem at_nat(S:Nat)(s:ByteArray)(i:Nat)(w:World)(h:ScanAt w S s)(hi2:i≤140737488355328)(hs:s.size≤140737488355328):
  Calls Tryz.prog 145 #[.pointer (some ⟨S,0,none⟩),.int .i64 (i:Int)] w λe w'=>e= .returned (.int .i64 (classAt s i))∧∃n,w'=w.drewN n:=by
 have:=at_any S s i w h (by omega) (by omega) hs;simpa using this
theorem ScanAt.alloc{w:World}{S:Nat}{s:ByteArray}(h:ScanAt w S s)(o:Obj):ScanAt (w.alloc o) S s:=h.below (below1 w o) h.lt
theorem ints_blk{W:World}{B:Nat}{t:TypeId}{zs:List Int}(hB:Blk W B t (zs.map (.int .i64)).toArray)(hl:zs.length≤1000)(hf:∀x∈zs,I64 x):Ints (λ_=>True) W (.slice (some ⟨B,0,none⟩) zs.length zs.length) zs:=
 ⟨⟨_,_,rfl,Nat.le_refl _,by omega,by omega,λ_=>⟨B,0,rfl,trivial,λj u hu=>by rw[hB.cell];simpa using hu⟩⟩,hf⟩
theorem while_345(S:Nat)(s:ByteArray)(i B:Nat)(W:World)(h:ScanAt W S s)(hB:Blk W B 3 #[.int .i64 3,.int .i64 4,.int .i64 5])(hi2:i≤s.size)(hs:s.size≤140737488355328):
  Calls Tryz.prog 144 #[.pointer (some ⟨S,0,none⟩),.int .i64 (i:Int),.slice (some ⟨B,0,none⟩) 3 3] W λe w'=>e= .returned (.int .i64 (runEnd s [3,4,5] i))∧∃n,w'=W.drewN n:=by
 have:=while_any S s i (λ_=>True) _ [3,4,5] W h (by omega) (by omega) hs (ints_blk hB (by decide) (by simp[I64]));simpa using this
theorem while_4(S:Nat)(s:ByteArray)(i B:Nat)(W:World)(h:ScanAt W S s)(hB:Blk W B 3 #[.int .i64 4])(hi2:i≤s.size)(hs:s.size≤140737488355328):
  Calls Tryz.prog 144 #[.pointer (some ⟨S,0,none⟩),.int .i64 (i:Int),.slice (some ⟨B,0,none⟩) 1 1] W λe w'=>e= .returned (.int .i64 (runEnd s [4] i))∧∃n,w'=W.drewN n:=by
 have:=while_any S s i (λ_=>True) _ [4] W h (by omega) (by omega) hs (ints_blk hB (by decide) (by simp[I64]));simpa using this
theorem blk_new1(w:World)(o:Obj)(t:TypeId)(cs:Array Value):Blk ((w.alloc o).alloc (.cells cs t)) (w.heap.size+1) t cs:=by
 have:=Blk.new (w.alloc o) t cs;simpa using this
theorem next_letter(S:Nat)(s:ByteArray)(i:Nat)(w:World)(h:ScanAt w S s)(hi:i<s.size)(hs:s.size≤20000)(hc:classAt s i=3):
  Calls Tryz.prog 113 #[.pointer (some ⟨S,0,none⟩),.int .i64 (i:Int)] w (NextPost s i w):=by
 have hS:=h.lt;have hr:=runEnd_spec s [3,4,5] (i:=i) (by omega);have hr1:=hr.1;have hr2:=hr.2.1
 have hn:nextS s i=(if 24<runEnd s [3,4,5] i-i then((tok0,0,2):Tok × Int × Int)else((⟨1,i,0,s.extract i (runEnd s [3,4,5] i)⟩,((runEnd s [3,4,5] i:Nat):Int),0):Tok × Int × Int)):=by
  unfold nextS;rw[if_pos hc]
 have HN:=hid hn;have H:=hid h;have HC:=hid hc;have s0:=h.1;have HWH:=hid (λW B h hB=>while_345 S s i B W h hB (by omega) (by omega));clear hr hn hc h;generalize runEnd s [3,4,5] i=k at*;go_enter Tryz.func113,Tryz.ntmps113
 go_wp2_with fail
 refine(at_nat S s i _ (.alloc H.out _) (by omega) (by omega)).mono ?_;rintro e w' ⟨rfl,n,rfl⟩;rw[HC.out];go_wp2_with fail
 refine(HWH.out _ _ (.drewN (.alloc (.alloc H.out _) _) _) (.drewN (blk_new1 _ _ _ _) _)).mono ?_;rintro e w' ⟨rfl,n2,rfl⟩;by_cases hk:24<k-i
 ·have hk':(24:Int)<(k:Int)-(i:Int):=by omega
  rw[if_pos hk]at HN;go_wp2;refine bodyPost_ret (v:= .tuple #[.agg (Tok.cells tok0).toArray,.int .i64 0,.int .i64 2]) (by simp[results,Tryz.results113,go_sem];rfl) rfl (nextPost_mk HN.out (by(repeat(first|exact Below.refl _ _ |assumption|refine below_drewN' ?_ _ |refine Below.drew ?_ |(refine Below.setCell ?_ (by first|exact Nat.le_refl _ |(simp;done)|(simp;omega)|omega) _)|(refine Below.alloc ?_ (by first|exact Nat.le_refl _ |(simp;done)|(simp;omega)|omega) _)))))
 ·have hk':¬(24:Int)<(k:Int)-(i:Int):=by omega
  rw[if_neg hk]at HN;go_wp2;refine bodyPost_ret (v:= .tuple #[.agg (Tok.cells ⟨1,i,0,s.extract i k⟩).toArray,.int .i64 (k:Int),.int .i64 0]) (by simp[results,Tryz.results113,go_sem];rfl) rfl (nextPost_mk HN.out (by(repeat(first|exact Below.refl _ _ |assumption|refine below_drewN' ?_ _ |refine Below.drew ?_ |(refine Below.setCell ?_ (by first|exact Nat.le_refl _ |(simp;done)|(simp;omega)|omega) _)|(refine Below.alloc ?_ (by first|exact Nat.le_refl _ |(simp;done)|(simp;omega)|omega) _)))))
theorem blk_freeze{w:World}{a:Addr}{n:Nat}{k:Nat}(h:k≠a.block):(w.freeze a n).heap[k]? =w.heap[k]? :=by
 unfold World.freeze;split
 ·rfl
 ·simp only[Array.getElem?_modify];rw[if_neg (λe=>h e.symm)]
theorem below_bytesWorld(w:World)(e:TypeId)(t:ByteArray):Below w.heap.size w (Lib.bytesWorld w e t):=by
 unfold Lib.bytesWorld;refine⟨?_,?_,?_,?_,λk hk=> ?_⟩
 ·unfold World.freeze;split<;>rfl
 ·unfold World.freeze;split<;>rfl
 ·unfold World.freeze;split<;>rfl
 ·unfold World.freeze;split<;>simp
 ·rw[blk_freeze (by simp;omega),Below.heap_alloc _ _ _ (by simpa using hk)];rfl
theorem decFrom_digits:∀(l:List UInt8)(acc:Nat),(∀b∈l,48≤b.toNat∧b.toNat≤57)->∃v,Lib.decFrom acc l=some v
 |[],acc,_=>⟨acc,rfl⟩
 |b::r,acc,h=>by
  obtain⟨v,hv⟩:=decFrom_digits r (acc*10+(b.toNat-48)) (λx hx=>h x (List.mem_cons_of_mem _ hx));refine⟨v,?_⟩;unfold Lib.decFrom Lib.digitVal;rw[if_pos (h b (List.mem_cons_self ..))];exact hv
theorem atoi_digits{l:List UInt8}(hne:l≠[])(h:∀b∈l,48≤b.toNat∧b.toNat≤57):Lib.atoi l=some ((Lib.atoi l).getD 0):=by
 cases l with
 |nil=>exact absurd rfl hne
 |cons b r=>
  have hb:=h b (List.mem_cons_self ..);obtain⟨v,hv⟩:=decFrom_digits (b::r) 0 h;have h1:(b==45)=false:=by rw[beq_eq_false_iff_ne];intro e;rw[e]at hb;simp at hb
  have h2:(b==43)=false:=by rw[beq_eq_false_iff_ne];intro e;rw[e]at hb;simp at hb
  unfold Lib.atoi;simp only[h1,h2,Bool.false_eq_true,if_false];unfold Lib.decNat;simp[hv]
theorem atoi_call(x:ByteArray)(hs:x.size≤18)(hne:x.data.toList≠[])(h:∀b∈x.data.toList,48≤b.toNat∧b.toNat≤57)(W:World):
  Calls Tryz.prog 73 #[.string x] W λe w'=>e= .returned (.tuple #[.int .i64 (numOf x),.nilIface])∧Below W.heap.size W w':=by
 refine(Tryz.strconv_Atoi x (numOf x) hs (atoi_digits hne h) W).mono ?_;rintro e w' ⟨rfl,t,rfl⟩;exact⟨rfl,below_bytesWorld _ _ _⟩
theorem classOf_digit{b:UInt8}(h:classOf b=4):48≤b.toNat∧b.toNat≤57:=by
 unfold classOf at h;split at h
 ·omega
 ·split at h
  ·assumption
  ·(repeat(split at h; · omega));omega
theorem run_digits{s:ByteArray}{i:Nat}(hi:i≤s.size):∀b∈(s.extract i (runEnd s [4] i)).data.toList,48≤b.toNat∧b.toNat≤57:=by
 intro b hb;obtain⟨h1,h2,h3,_⟩:=runEnd_spec s [4] hi;rw[Lib.extract_data]at hb;obtain⟨j,hj,rfl⟩:=List.getElem_of_mem hb;simp only[List.length_take,List.length_drop,Array.length_toList,ByteArray.size_data]at hj;have hlt:i+j<s.size:=by omega
 have:=h3 (i+j) (by omega) (by omega);rw[classAt_lt hlt]at this;have h4:classOf s[i+j]=4:=by simpa using this
 simp only[List.getElem_take,List.getElem_drop];exact classOf_digit h4
theorem next_digit(S:Nat)(s:ByteArray)(i:Nat)(w:World)(h:ScanAt w S s)(hi:i<s.size)(hs:s.size≤20000)(hc:classAt s i=4):
  Calls Tryz.prog 113 #[.pointer (some ⟨S,0,none⟩),.int .i64 (i:Int)] w (NextPost s i w):=by
 have hS:=h.lt;have hr:=runEnd_spec s [4] (i:=i) (by omega);have hr1:=hr.1;have hr2:=hr.2.1
 have hr3:i<runEnd s [4] i:=by
  rcases Nat.lt_or_ge i (runEnd s [4] i)with h'|h'
  ·exact h'
  ·(have e:runEnd s [4] i=i:=by omega);have:=hr.2.2.2 (by omega);rw[e,hc]at this;simp at this
 have hd:=run_digits (s:=s) (i:=i) (by omega)
 have hn:nextS s i=(if 13<runEnd s [4] i-i∨classAt s (runEnd s [4] i)=3∨classAt s (runEnd s [4] i)=5 then((tok0,0,4):Tok × Int × Int)else((⟨2,i,numOf (s.extract i (runEnd s [4] i)),s.extract i (runEnd s [4] i)⟩,((runEnd s [4] i:Nat):Int),0):Tok × Int × Int)):=by
  unfold nextS;rw[if_neg (by omega),if_pos hc]
 have HN:=hid hn;have H:=hid h;have HC:=hid hc;have s0:=h.1;have HWH:=hid (λW B h hB=>while_4 S s i B W h hB (by omega) (by omega));have HD:=hid hd;clear hr hn hc h hd;generalize runEnd s [4] i=k at*;generalize hcl:classAt s k=c2 at*;have HCL:=hid hcl;clear hcl;go_enter Tryz.func113,Tryz.ntmps113
 go_wp2_with fail
 refine(at_nat S s i _ (.alloc H.out _) (by omega) (by omega)).mono ?_;rintro e w' ⟨rfl,n,rfl⟩;rw[HC.out];go_wp2_with fail
 refine(HWH.out _ _ (.drewN (.alloc (.alloc H.out _) _) _) (.drewN (blk_new1 _ _ _ _) _)).mono ?_;rintro e w' ⟨rfl,n2,rfl⟩;go_wp2_with fail
 refine(at_nat S s k _ (.drewN (.alloc (.alloc H.out _) _) _) (by omega) (by omega)).mono ?_;rintro e w' ⟨rfl,n3,rfl⟩;rw[HCL.out];by_cases h13:13<k-i
 ·have h13':decide ((13:Int)<(k:Int)-(i:Int))=true:=by simp;omega
  rw[if_pos (Or.inl h13)]at HN;go_wp2;refine bodyPost_ret (v:= .tuple #[.agg (Tok.cells tok0).toArray,.int .i64 0,.int .i64 4]) (by simp[results,Tryz.results113,go_sem];rfl) rfl (nextPost_mk HN.out (by(repeat(first|exact Below.refl _ _ |assumption|refine below_drewN' ?_ _ |refine Below.drew ?_ |(refine Below.setCell ?_ (by first|exact Nat.le_refl _ |(simp;done)|(simp;omega)|omega) _)|(refine Below.alloc ?_ (by first|exact Nat.le_refl _ |(simp;done)|(simp;omega)|omega) _)))))
 ·have h13':decide ((13:Int)<(k:Int)-(i:Int))=false:=by simp;omega
  by_cases h3:c2=3
  ·rw[if_pos (Or.inr (Or.inl h3))]at HN;subst h3;go_wp2;refine bodyPost_ret (v:= .tuple #[.agg (Tok.cells tok0).toArray,.int .i64 0,.int .i64 4]) (by simp[results,Tryz.results113,go_sem];rfl) rfl (nextPost_mk HN.out (by(repeat(first|exact Below.refl _ _ |assumption|refine below_drewN' ?_ _ |refine Below.drew ?_ |(refine Below.setCell ?_ (by first|exact Nat.le_refl _ |(simp;done)|(simp;omega)|omega) _)|(refine Below.alloc ?_ (by first|exact Nat.le_refl _ |(simp;done)|(simp;omega)|omega) _)))))
  ·(have h3':(c2==(3:Int))=false:=by simp[h3]);by_cases h5:c2=5
   ·rw[if_pos (Or.inr (Or.inr h5))]at HN;subst h5;go_wp2;refine bodyPost_ret (v:= .tuple #[.agg (Tok.cells tok0).toArray,.int .i64 0,.int .i64 4]) (by simp[results,Tryz.results113,go_sem];rfl) rfl (nextPost_mk HN.out (by(repeat(first|exact Below.refl _ _ |assumption|refine below_drewN' ?_ _ |refine Below.drew ?_ |(refine Below.setCell ?_ (by first|exact Nat.le_refl _ |(simp;done)|(simp;omega)|omega) _)|(refine Below.alloc ?_ (by first|exact Nat.le_refl _ |(simp;done)|(simp;omega)|omega) _)))))
   ·(have h5':(c2==(5:Int))=false:=by simp[h5]);rw[if_neg (by rintro(a|a|a)<;>contradiction)]at HN;clear h3 h5;go_wp2_with fail
    refine(atoi_call _ (by simp;omega) (by
     intro he;have:=congrArg List.length he;rw[Lib.extract_data]at this;simp at this
     omega) HD.out _).mono ?_
    rintro e w3 ⟨rfl,hb3⟩;have tb:Blk w3 w.heap.size 142 #[.int .i64 0,.int .i64 0,.int .i64 0,.string ⟨#[]⟩]:=Blk.below (.drewN (.alloc (Blk.new w _ _) _) _) hb3 (by simp;omega);have s3:=(ScanAt.below (.drewN (.alloc (.alloc H.out _) _) _) hb3 (by simp;omega)).1;have t0:=tb.at0;have t1:=tb.at1;have t2:=tb.at2;have t3:=tb.at3;have f0:=tb.frozen 0;have f1:=tb.frozen 1;have f2:=tb.frozen 2;have f3:=tb.frozen 3;clear tb;have hbel:Below w.heap.size w w3:= .trans (below_drewN' (.alloc (.alloc (.refl _ _) (Nat.le_refl _) _) (by simp) _) _) (hb3.mono (by simp;omega));clear hb3;go_wp2;refine bodyPost_ret (v:= .tuple #[.agg (Tok.cells ⟨2,i,numOf (s.extract i k),s.extract i k⟩).toArray,.int .i64 (k:Int),.int .i64 0]) (by simp[results,Tryz.results113,go_sem,t0,t1,t2,t3];rfl) rfl (nextPost_mk HN.out (by(repeat(first|exact Below.refl _ _ |assumption|refine below_drewN' ?_ _ |refine Below.drew ?_ |(refine Below.setCell ?_ (by first|exact Nat.le_refl _ |(simp;done)|(simp;omega)|omega) _)|(refine Below.alloc ?_ (by first|exact Nat.le_refl _ |(simp;done)|(simp;omega)|omega) _)))))
end Go.Proofs.YtimmfbnjndndlaaGreatDoor
