/- Texts W8. -/
import Derived.Test.YtimmfbnjndndlaaGreatDoorM10
import Derived.Test.YtimmfbnjndndlaaGreatDoorM1
set_option linter.all false
namespace Go.Proofs.YtimmfbnjndndlaaGreatDoor
open Go.RowKit
set_option maxHeartbeats 2000000
set_option maxRecDepth 100000
def quotes:ByteArray:=⟨#[34,10]⟩
theorem indexRune_err(q:ByteArray)(hq:∀b∈q.data.toList,b.toNat<128)(w:World):
  Calls Tryz.prog 174 #[.string q,.int .i32 65533] w λe w'=>e= .returned (.int .i64 (-1))∧Below w.heap.size w w':=by
 have HQ:=hid hq;clear hq;go_enter Tryz.func174,Tryz.ntmps174
 go_wp2;go_loopg[5] q.size (λg _ wx=>∃i:Nat,i+g=q.size∧wx=w.iter q i)
 case atStart=>exact⟨0,by omega,rfl⟩
 case round=>
  obtain⟨i,hig,rfl⟩:=hrel
  cases gk with
  |zero=>
   (obtain rfl:i=q.size:=by omega);(have hnx:=λty=>run_next_end (P:=Tryz.prog) w q q.size ty (by omega));go_wp2;go_ret;exact⟨rfl,(Below.refl _ _).alloc (Nat.le_refl _) _⟩
  |succ g=>
   (have hi:i<q.size:=by omega);obtain⟨x,hx⟩:∃x:UInt8,q[i]'hi=x:=⟨_,rfl⟩;have hx128:x.toNat<128:=HQ.out x (List.mem_of_getElem? (by rw[getElem_toList hi,hx]));(have hnx:=λty=>run_next_ascii (P:=Tryz.prog) w q i ty hi (by rw[hx];exact hx128));rw[hx]at hnx;clear hx;(have hne:(((x.toNat:Nat):Int)==65533)=false:=by rw[beq_eq_false_iff_ne];omega);go_wp2;(go_roundg g);(case measure=>omega);case rel=>exact⟨i+1,by omega,rfl⟩
theorem indexByte_nil(w:World)(c:Int)(s:ByteArray)(hs:s.size=0):Calls Tryz.prog 146 #[.string s,.int .u8 c] w λe w'=>e= .returned (.int .i64 (-1))∧w=w':=by
 refine(Tryz.strings_IndexByte s c w).mono ?_;rintro e w' ⟨rfl,rfl⟩;have:s.data.toList=[]:=List.eq_nil_of_length_eq_zero (by simpa using hs);rw[this];exact⟨rfl,rfl⟩
theorem indexRune_high(q:ByteArray)(hq:∀b∈q.data.toList,b.toNat<128)(hq2:q.size=2)(r:Int)(h1:128≤r)(h2:r≤2147483647)(w:World):
  Calls Tryz.prog 174 #[.string q,.int .i32 r] w λe w'=>e= .returned (.int .i64 (-1))∧Below w.heap.size w w':=by
 by_cases he:r=65533
 ·subst he;exact indexRune_err q hq w
 have hne:(r==65533)=false:=by simpa using he
 have hn128:¬r<128:=by omega
 cases hv:Lib.validRune r with
 |false=>
  have HV:=hid hv;clear hv he hq;go_enter Tryz.func174,Tryz.ntmps174
  go_wp2_with(go_at_call 195;refine(Tryz.utf8_ValidRune _ _).mono ?_;rintro e w' ⟨rfl,rfl⟩;rw[HV.out]);go_ret;exact⟨rfl,Below.refl _ _⟩
 |true=>
  have HV:=hid hv
  have hv8:Utf8.valid r=true:=by
   rw[validRune_eq];have:=hv;unfold Lib.validRune at this;unfold validRune;simp only[decide_eq_true_eq]at this⊢;exact this
  obtain⟨e1,e2,e3⟩:=encode_facts r hv8 h1;have he3:=e3 (by omega);have HQ:=hid hq;clear hv he hv8 hq e3;have e2':(Utf8.encode r).size ≤9223372036854775807:=by omega
  by_cases h3:3≤(Utf8.encode r).size
  ·(go_enter Tryz.func174,Tryz.ntmps174);go_wp2_with(go_at_call 195;refine(Tryz.utf8_ValidRune _ _).mono ?_;rintro e w' ⟨rfl,hw⟩;subst hw;rw[HV.out]);go_step3;go_wp2;refine wp_loop_once ?_;(have hsz:¬((Utf8.encode r).size :Int)-1<2:=by omega);go_wp2;go_ret;exact⟨rfl,Below.refl _ _⟩
  ·(have h22:(Utf8.encode r).size =2:=by omega);(have hq1:1<q.size:=by omega);(have hr1:1<(Utf8.encode r).size :=by omega);have hx:q[1].toNat <128:=HQ.out _ (List.mem_of_getElem? (getElem_toList hq1));have hy:128≤((Utf8.encode r)[1]).toNat :=by simpa[h22]using he3
   have hxy:(((q[1].toNat :Nat):Int)!=(((Utf8.encode r)[1].toNat :Nat):Int))=true:=by
    rw[bne_iff_ne];omega
   clear he3 h3 e1 e2 e2';(go_enter Tryz.func174,Tryz.ntmps174);go_wp2_with(go_at_call 195;refine(Tryz.utf8_ValidRune _ _).mono ?_;rintro e w' ⟨rfl,hw⟩;subst hw;rw[HV.out]);go_step3;go_wp2;refine wp_loop_once ?_;go_wp2;go_step3;go_wp2;go_quiet(fail);go_wp2;go_quiet((go_at_call 146;exact quiet_add_left (indexByte_nil _ _ _ (by simp))));go_wp2;rw[Exit.noGoto_ret];go_wp2
   (try(rw[Exit.noGoto_ret];go_wp2))
   go_ret;exact⟨rfl,below_drewN' (Below.refl _ _) _⟩
theorem cont_ge{x:UInt8}(h:(x.toNat / 64==2)=true):128≤x.toNat:=by
 have:x.toNat / 64=2:=by simpa using h
 omega
theorem get_bang(s:ByteArray)(i:Nat)(h:i<s.size):s.get! i=s[i]:=by
 have:=get_at s i h;simpa using this
theorem decode_span(s:ByteArray)(i:Nat)(h:i<s.size)(ha:128≤(s[i]).toNat):
  i+(Utf8.decode s i).2≤s.size∧∀j,i≤j->j<i+(Utf8.decode s i).2->∃hj:j<s.size,128≤(s[j]).toNat :=by
 have key:∀k,(decide (i+k<s.size)&&(s.get! (i+k)).toNat / 64==2)=true->∃hj:i+k<s.size,128≤(s[i+k]).toNat :=by
  intro k hk;rw[Bool.and_eq_true]at hk;have hlt:i+k<s.size:=by simpa using hk.1
  exact⟨hlt,cont_ge (by rw[<-get_bang s _ hlt];exact hk.2)⟩
 have hn:¬(s.get! (i+0)).toNat <128:=by rw[get_at s i h];omega
 unfold Utf8.decode;simp only[hn,if_false]
 have one:i+1≤s.size∧∀j,i≤j->j<i+1->∃hj:j<s.size,128≤(s[j]).toNat :=
  ⟨h,λj a b=>by
   obtain rfl:j=i:=by omega
   exact⟨h,ha⟩⟩
 split
 ·rename_i h1;rw[Bool.and_eq_true]at h1;obtain⟨l1,g1⟩:=key 1 h1.2
  have two:i+2≤s.size∧∀j,i≤j->j<i+2->∃hj:j<s.size,128≤(s[j]).toNat :=
   ⟨l1,λj a b=>by
    rcases(by omega:j=i∨j=i+1)with rfl|rfl
    ·exact⟨h,ha⟩
    ·exact⟨l1,g1⟩⟩
  split
  ·exact two
  ·exact one
 ·split
  ·rename_i h1;rw[Bool.and_eq_true,Bool.and_eq_true]at h1;obtain⟨l1,g1⟩:=key 1 h1.1.2;obtain⟨l2,g2⟩:=key 2 h1.2
   have three:i+3≤s.size∧∀j,i≤j->j<i+3->∃hj:j<s.size,128≤(s[j]).toNat :=
    ⟨l2,λj a b=>by
     rcases(by omega:j=i∨j=i+1∨j=i+2)with rfl|rfl|rfl
     ·exact⟨h,ha⟩
     ·exact⟨l1,g1⟩
     ·exact⟨l2,g2⟩⟩
   split
   ·exact three
   ·exact one
  ·split
   ·rename_i h1;rw[Bool.and_eq_true,Bool.and_eq_true,Bool.and_eq_true]at h1;obtain⟨l1,g1⟩:=key 1 h1.1.1.2;obtain⟨l2,g2⟩:=key 2 h1.1.2;obtain⟨l3,g3⟩:=key 3 h1.2
    have four:i+4≤s.size∧∀j,i≤j->j<i+4->∃hj:j<s.size,128≤(s[j]).toNat :=
     ⟨l3,λj a b=>by
      rcases(by omega:j=i∨j=i+1∨j=i+2∨j=i+3)with rfl|rfl|rfl|rfl
      ·exact⟨h,ha⟩
      ·exact⟨l1,g1⟩
      ·exact⟨l2,g2⟩
      ·exact⟨l3,g3⟩⟩
    split
    ·exact four
    ·exact one
   ·exact one
theorem noAny_span{l chars:List UInt8}:∀(n i:Nat),Lib.NoAny l chars i->(∀j,i≤j->j<i+n->∃x,l[j]? =some x∧chars.contains x=false)->Lib.NoAny l chars (i+n)
 |0,_,h,_=>h
 |n+1,i,h,hx=>by
  obtain⟨x,h1,h2⟩:=hx i (Nat.le_refl _) (by omega);have:=noAny_span n (i+1) (h.succ h1 h2) (λj a b=>hx j (by omega) (by omega));rwa[show i+1+n=i+(n+1) from by omega]at this
theorem run_next_at{P:Program}(w:World)(B:Nat)(s:ByteArray)(pos:Nat)(ty:TypeId)(hB:w.heap[B]? =some (.stringIter s pos))(h:pos<s.size):
  (Instr.next (.pointer (some ⟨B,0,none⟩)) true ty).run P w=
   .ok (.tuple #[.bool true,.int .i64 pos,.int .i32 (Utf8.decode s pos).1]) (ChangeMaps.setBlock w B (.stringIter s (pos+(Utf8.decode s pos).2))):=by
 simp only[Instr.next,getObj,setObj,Sem.run_bind,Sem.run,hB,Result.andThen,h,if_true];simp[goInt,ChangeMaps.setBlock]
theorem run_next_at_end{P:Program}(w:World)(B:Nat)(s:ByteArray)(pos:Nat)(ty:TypeId)(hB:w.heap[B]? =some (.stringIter s pos))(h:¬pos<s.size):
  (Instr.next (.pointer (some ⟨B,0,none⟩)) true ty).run P w= .ok (.tuple #[.bool false]) w:=by
 simp[Instr.next,getObj,Sem.run,hB,h]
theorem setBlock_facts{w:World}{B:Nat}{o o':Obj}(h:w.heap[B]? =some o):(ChangeMaps.setBlock w B o').heap[B]? =some o'∧Keeps (λb=>b≠B) w (ChangeMaps.setBlock w B o')∧(ChangeMaps.setBlock w B o').heap.size =w.heap.size:=by
 have hlt:=(Array.getElem?_eq_some_iff.1 h).1;refine⟨by simp[ChangeMaps.setBlock,hlt],⟨rfl,rfl,rfl,by simp[ChangeMaps.setBlock],λk _ hk=> ?_⟩,by simp[ChangeMaps.setBlock]⟩;simp only[ChangeMaps.setBlock,Array.getElem?_setIfInBounds];rw[if_neg (λe=>hk e.symm)]
theorem indexAny_short(q:ByteArray)(hq:∀b∈q.data.toList,b.toNat<128)(hq2:q.size=2)(s:ByteArray)(h8:s.size≤8)(w:World):
  Calls Tryz.prog 147 #[.string s,.string q] w λe w'=>e= .returned (.int .i64 (Lib.indexAny s.data.toList q.data.toList))∧Below w.heap.size w w':=by
 have HQ:=hid hq;clear hq
 have hemp:q.toList.isEmpty=false:=by
  rw[ByteArray.toList_eq]
  cases h:q.data.toList with
  |nil=>
   (have hl:q.data.toList.length=2:=by simpa using hq2);rw[h]at hl;simp at hl
  |cons _ _=>rfl
 have hn1:((q.size:Int)==1)=false:=beq_eq_false_iff_ne.2 (by omega);have h8z:decide ((8:Int)<(s.size:Int))=false:=decide_eq_false (by omega);go_enter Tryz.func147,Tryz.ntmps147
 go_wp2_with(go_at_call 175;refine(Tryz.strings_shouldUseASCIISet _ _).mono ?_;rintro e w' ⟨rfl,hw⟩;rw[hw,h8z]);go_loopg[9,10] s.size (λg _ _ wx=>∃i:Nat,i≤s.size∧s.size≤i+g∧Below w.heap.size w wx∧wx.heap[w.heap.size]? =some (.stringIter s i)∧Hid (Lib.NoAny s.data.toList q.data.toList i))
 case atStart=>exact⟨0,Nat.zero_le _,Nat.le_add_left _ _,below1 w _,World.iter_heap _ _ _,Lib.NoAny.zero _ _⟩
 case round=>
  obtain⟨i,hi0,hig,hbel,hit,hno⟩:=hrel;by_cases hi:i<s.size
  ·obtain⟨g,rfl⟩:∃g',gk=g'+1:=⟨gk-1,by omega⟩;(have hnx:=λty=>run_next_at (P:=Tryz.prog) wr w.heap.size s i ty hit hi);obtain⟨f1,f2,f3⟩:=setBlock_facts (o':= .stringIter s (i+(Utf8.decode s i).2)) hit;have hbel2:Below w.heap.size w (ChangeMaps.setBlock wr w.heap.size (.stringIter s (i+(Utf8.decode s i).2))):=below_keeps_ne hbel f2 (Nat.le_refl _) hbel.size;generalize ChangeMaps.setBlock wr w.heap.size (.stringIter s (i+(Utf8.decode s i).2))=w1 at*;have hlt1:w.heap.size<w1.heap.size:=(Array.getElem?_eq_some_iff.1 f1).1;by_cases hx:(s[i]).toNat <128
   ·have hd:=decode_ascii s i hi hx;have hdl:=congrArg Prod.fst hd;have hdr:=congrArg Prod.snd hd;simp only at hdl hdr;rw[hdl]at hnx;rw[hdr]at f1;have hxl:s.data.toList[i]? =some s[i]:=getElem_toList hi;have Hx:=hid hxl;clear hxl hd hdl hdr;generalize s[i]=x at*;have hcon:=Lib.contains_iff_indexByte q.data.toList x;(have hback:((x.toNat:Int)).toNat.toUInt8 =x:=by simp);have HBK:=hid hback;clear hback
    cases hin:q.data.toList.contains x with
    |false=>
     have HIN:=hid hin;rw[hin]at hcon;have hlt:¬((0:Int)≤Lib.indexByte q.data.toList x):=of_decide_eq_false hcon.symm;clear hcon hin;go_wp2_with(go_at_call 174;refine(Tryz.strings_IndexRune_ascii _ _ _ (by omega) (by omega)).mono ?_;rintro e w' ⟨rfl,hw⟩;rw[hw,HBK.out]);(go_roundg g);(case measure=>omega);case rel=>exact⟨i+1,by omega,by omega,hbel2,f1,hno.out.succ Hx.out HIN.out⟩
    |true=>
     have HIN:=hid hin;rw[hin]at hcon;have hge:(0:Int)≤Lib.indexByte q.data.toList x:=of_decide_eq_true hcon.symm;clear hcon hin;go_wp2_with(go_at_call 174;refine(Tryz.strings_IndexRune_ascii _ _ _ (by omega) (by omega)).mono ?_;rintro e w' ⟨rfl,hw⟩;rw[hw,HBK.out]);go_ret;exact⟨ret_int (by rw[Lib.indexAny_hit hno.out Hx.out HIN.out]),hbel2⟩
   ·obtain⟨d1,d2⟩:=decode_high s i hi (by omega);have d3:=decode_le s i;obtain⟨d4,d5⟩:=decode_span s i hi (by omega)
    have hno2:Lib.NoAny s.data.toList q.data.toList (i+(Utf8.decode s i).2):=noAny_span _ i hno.out (λj a b=>by
     obtain⟨hj,hj2⟩:=d5 j a b;refine⟨s[j],getElem_toList hj,?_⟩
     cases hc:q.data.toList.contains s[j]with
     |false=>rfl
     |true=>
      have:=HQ.out s[j] (by simpa using hc)
      omega)
    have HNO:=hid hno2;clear hno2 d5 hno;generalize (Utf8.decode s i).1=r at*;generalize (Utf8.decode s i).2=n at*;(have hr2:(r:Int)≤2147483647:=by omega);go_wp2_with(go_at_call 174;refine(indexRune_high q HQ.out hq2 _ (by omega) hr2 _).mono ?_;rintro e w2 ⟨rfl,hb2⟩);(go_roundg g);(case measure=>omega);case rel=>exact⟨i+n,d4,by omega,hbel2.trans (hb2.mono (by omega)),(hb2.block _ hlt1).trans f1,HNO.out⟩
  ·(obtain rfl:i=s.size:=by omega);(have hnx:=λty=>run_next_at_end (P:=Tryz.prog) wr w.heap.size s s.size ty hit hi);go_wp2;go_ret;exact⟨ret_int (by rw[Lib.indexAny_none (by simpa using hno.out)]),hbel⟩
theorem Tryz.zero206(w:World):(zeroValue 221).run Tryz.prog w= .ok (.agg (Array.replicate 256 (.bool false))) w:=by kernel_rfl
theorem indexAny_q(q:ByteArray)(hq:∀b∈q.data.toList,b.toNat<128)(hq2:q.size=2)(s:ByteArray)(hs:s.size≤20000)(w:World):
  Calls Tryz.prog 147 #[.string s,.string q] w λe w'=>e= .returned (.int .i64 (Lib.indexAny s.data.toList q.data.toList))∧Below w.heap.size w w':=by
 by_cases h8:s.size≤8
 ·exact indexAny_short q hq hq2 s h8 w
 ·refine(Tryz.strings_IndexAny_long Tryz.zero206 s q w (by omega) (by omega) (by omega) (by omega) (λj b hb=>hq b (List.mem_of_getElem? hb))).mono ?_;rintro e w' ⟨rfl,rfl⟩;exact⟨rfl,.alloc (.alloc (.refl _ _) (Nat.le_refl _) _) (by simp) _⟩
end Go.Proofs.YtimmfbnjndndlaaGreatDoor
