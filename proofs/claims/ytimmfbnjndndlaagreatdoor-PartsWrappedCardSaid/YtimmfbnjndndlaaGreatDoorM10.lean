/- Texts W6. -/
import Derived.Test.YtimmfbnjndndlaaGreatDoorM7
import Derived.Test.YtimmfbnjndndlaaGreatDoorM5
import Derived.Test.YtimmfbnjndndlaaGreatDoorM6
import Derived.Test.YtimmfbnjndndlaaGreatDoorM0
import Derived.WalkSpells
import Derived.WalkLawsBesides
import Derived.Deep.QuietTactic
import Derived.BigQuiet
import Derived.Shelf.Abstract
import Derived.Laws.EntriesVeiled
set_option linter.all false
namespace Go.Proofs.YtimmfbnjndndlaaGreatDoor
open Go.RowKit
set_option maxHeartbeats 2000000
set_option maxRecDepth 100000
theorem getElem_toList{s:ByteArray}{k:Nat}(hk:k<s.size):s.data.toList[k]? =some s[k]:=by
 have hl:k<s.data.toList.length:=by simpa using hk
 rw[List.getElem?_eq_getElem hl];simp;rfl
theorem classes1_any(B:Nat)(cur:Array Int)(hcur:cur.size=256)(s:ByteArray)(hs:s.size≤1000)(c:Int)(w:World)(hB:Blk w B 169 (valsI cur)):
  Calls Tryz.prog 143 #[.string s,.int .i64 c,.pointer (some ⟨B,0,none⟩)] w λe w'=>e= .returned (.tuple #[])∧Blk w' B 169 (valsI (setAllI cur s.data.toList c))∧Keeps (λb=>b≠B) w w':=by
 go_enter Tryz.func143,Tryz.ntmps143
 go_wp2;go_loopw[5] (λi wr=>∃k:Nat,k≤s.size∧i= .int .i64 k∧Blk wr B 169 (valsI (setAllI cur (s.data.toList.take k) c))∧Keeps (λb=>b≠B) w wr) (λi _=>s.size-(intOf i).toNat);case atStart=>exact⟨0,Nat.zero_le _,rfl,hB,.refl _ _⟩
 case round=>
  obtain⟨k,hk,rfl,hblk,hkp⟩:=hrel;by_cases hlt:k<s.size
  ·have hb:=(s[k]).toNat_lt;have hsz:(valsI (setAllI cur (s.data.toList.take k) c)).size =256:=by rw[valsI_size,setAllI_size,hcur]
   have hcell:∃v,wr.cell? ⟨B,s[k].toNat,none⟩=some v:=by
    rw[hblk.cell];exact⟨_,Array.getElem?_eq_getElem (by omega)⟩
   obtain⟨v0,hc0⟩:=hcell;have hf0:=hblk.frozen (s[k]).toNat;have HB:=hid hblk
   have ht:s.data.toList.take (k+1)=s.data.toList.take k++[s[k]]:=by
    rw[List.take_add_one,getElem_toList hlt];rfl
   have HT:=hid ht;clear hblk ht hsz;(have h256:((s[k].toNat :Nat):Int)<256:=by omega);go_wp2;go_roundw
   case rel=>
    refine⟨k+1,by omega,by go_num,?_,.setCell hkp (λ_ h=>h rfl) _⟩;rw[HT.out,setAllI_snoc,<-valsI_set];exact HB.out.set_ _ _
   case measure=>simp[intOf];omega
  ·(obtain rfl:k=s.size:=by omega);go_wp2;go_end0;refine⟨rfl,?_,hkp⟩;rwa[List.take_of_length_le (by simp)]at hblk
theorem Tryz.zc176:Tryz.zeroCells169=valsI cls0:=by
 unfold valsI cls0;rw[Array.map_replicate]
 kernel_rfl
theorem Tryz.sz176:(Tryz.prog.info? 169).map (·.size)=some 256:=by kernel_rfl
theorem classes_any(w:World):
  Calls Tryz.prog 111 #[] w λe w'=>e= .returned (.agg (valsI cls9))∧Below w.heap.size w w':=by
 have eg:∀args w,(callFunc 143 args).run Tryz.prog w= .ok (.enter 143 args) w:=enters_of Tryz.func143 (by kernel_rfl) rfl
 have hb0:Blk ((w.alloc (.cells Tryz.zeroCells169 169)).alloc (.cells Tryz.zeroCells169 169)) (w.heap.size+1) 169 (valsI cls0):=by
  rw[Tryz.zc176];have:=Blk.new (w.alloc (.cells (valsI cls0) 169)) 169 (valsI cls0);simp only[World.size_alloc]at this;exact this
 have ha0:Blk ((w.alloc (.cells Tryz.zeroCells169 169)).alloc (.cells Tryz.zeroCells169 169)) w.heap.size 169 (valsI cls0):=by
  rw[Tryz.zc176];exact(Blk.new w _ _).alloc _
 have HA:=hid ha0;clear ha0;have hbel:Below w.heap.size w ((w.alloc (.cells Tryz.zeroCells169 169)).alloc (.cells Tryz.zeroCells169 169)):= .alloc (.alloc (.refl _ _) (Nat.le_refl _) _) (by simp) _;go_enter Tryz.func111,Tryz.ntmps111
 go_wp2_with fail
 refine(classes1_any (w.heap.size+1) cls0 (by simp only[cls0,Array.size_replicate]) _ (by decide) 3 _ hb0).mono ?_;rintro e w1 ⟨rfl,hb1,hk1⟩;have HB1:Hid (Blk w1 (w.heap.size+1) 169 (valsI cls1)):=hb1;clear hb1;go_wp2_with fail
 refine(classes1_any (w.heap.size+1) cls1 (by simp only[cls1,cls0,setAllI_size,Array.size_replicate]) _ (by decide) 4 _ HB1.out).mono ?_;rintro e w2 ⟨rfl,hb2,hk2⟩;have HB2:Hid (Blk w2 (w.heap.size+1) 169 (valsI cls2)):=hb2;clear hb2;go_wp2_with fail
 refine(classes1_any (w.heap.size+1) cls2 (by simp only[cls2,cls1,cls0,setAllI_size,Array.size_replicate]) _ (by decide) 5 _ HB2.out).mono ?_;rintro e w3 ⟨rfl,hb3,hk3⟩;have HB3:Hid (Blk w3 (w.heap.size+1) 169 (valsI cls3)):=hb3;clear hb3;go_wp2_with fail
 refine(classes1_any (w.heap.size+1) cls3 (by simp only[cls3,cls2,cls1,cls0,setAllI_size,Array.size_replicate]) _ (by decide) 1 _ HB3.out).mono ?_;rintro e w4 ⟨rfl,hb4,hk4⟩;have HB4:Hid (Blk w4 (w.heap.size+1) 169 (valsI cls4)):=hb4;clear hb4;go_wp2_with fail
 refine(classes1_any (w.heap.size+1) cls4 (by simp only[cls4,cls3,cls2,cls1,cls0,setAllI_size,Array.size_replicate]) _ (by decide) 2 _ HB4.out).mono ?_;rintro e w5 ⟨rfl,hb5,hk5⟩;have HB5:Hid (Blk w5 (w.heap.size+1) 169 (valsI cls5)):=hb5;clear hb5;go_wp2_with fail
 refine(classes1_any (w.heap.size+1) cls5 (by simp only[cls5,cls4,cls3,cls2,cls1,cls0,setAllI_size,Array.size_replicate]) _ (by decide) 6 _ HB5.out).mono ?_;rintro e w6 ⟨rfl,hb6,hk6⟩;have HB6:Hid (Blk w6 (w.heap.size+1) 169 (valsI cls6)):=hb6;clear hb6;go_wp2_with fail
 refine(classes1_any (w.heap.size+1) cls6 (by simp only[cls6,cls5,cls4,cls3,cls2,cls1,cls0,setAllI_size,Array.size_replicate]) _ (by decide) 7 _ HB6.out).mono ?_;rintro e w7 ⟨rfl,hb7,hk7⟩;have HB7:Hid (Blk w7 (w.heap.size+1) 169 (valsI cls7)):=hb7;clear hb7;go_wp2_with fail
 refine(classes1_any (w.heap.size+1) cls7 (by simp only[cls7,cls6,cls5,cls4,cls3,cls2,cls1,cls0,setAllI_size,Array.size_replicate]) _ (by decide) 8 _ HB7.out).mono ?_;rintro e w8 ⟨rfl,hb8,hk8⟩;have HB8:Hid (Blk w8 (w.heap.size+1) 169 (valsI cls8)):=hb8;clear hb8;go_wp2_with fail
 refine(classes1_any (w.heap.size+1) cls8 (by simp only[cls8,cls7,cls6,cls5,cls4,cls3,cls2,cls1,cls0,setAllI_size,Array.size_replicate]) _ (by decide) 9 _ HB8.out).mono ?_;rintro e w9 ⟨rfl,hb9,hk9⟩;have HB9:Hid (Blk w9 (w.heap.size+1) 169 (valsI cls9)):=hb9;clear hb9;have hkk:=hk1.trans (hk2.trans (hk3.trans (hk4.trans (hk5.trans (hk6.trans (hk7.trans (hk8.trans hk9)))))));have HA9:=hid (HA.out.keep hkk (by simp));have hB9:Below w.heap.size w w9:=hbel.trans ⟨hkk.os,hkk.tape,hkk.output,hkk.size,λk hk=>hkk.block k (by simp;omega) (by omega)⟩;clear hk1 hk2 hk3 hk4 hk5 hk6 hk7 hk8 hk9 HB1 HB2 HB3 HB4 HB5 HB6 HB7 HB8 HA hkk hbel;have h9:(valsI cls9).size =256:=by rw[valsI_size,cls9_size]
 have h0:(valsI cls0).size =256:=by simp[valsI_size,cls0]
 have H9:=hid h9;clear h9
 go_wp2_with(first
  |(refine wpList_load_blk rfl 169 _ rfl rfl HB9.out _ Tryz.underlying169 rfl (by rw[H9.out];exact Tryz.sz176) ?_)
  |(refine wpList_store_blk rfl 169 _ _ rfl rfl rfl HA9.out (by rw[H9.out,h0]) (by rw[H9.out];exact Tryz.sz176) (valsI_one _) ?_;intro w10 hb10 hk10 hs10))
 refine bodyPost_ret (v:= .agg (valsI cls9)) (results_cell_row rfl _ _ w.heap.size 169 (valsI cls9) (0,0) _ rfl hb10 Tryz.underlying169 rfl (by rw[H9.out];exact Tryz.sz176)) rfl ⟨rfl,?_⟩;exact hB9.trans ⟨hk10.os,hk10.tape,hk10.output,hk10.size,λk hk=>hk10.block k (by have:=hB9.size;omega) (by omega)⟩
def ScanAt(w:World)(S:Nat)(s:ByteArray):Prop:=w.cell? ⟨S,0,none⟩=some (.string s)∧∀b:UInt8,w.cell? ⟨S,1+b.toNat,none⟩=some (.int .i64 (classOf b))
theorem ScanAt.lt{w:World}{S:Nat}{s:ByteArray}(h:ScanAt w S s):S<w.heap.size:=lt_of_cell h.1
theorem ScanAt.below{B:Nat}{w w':World}{S:Nat}{s:ByteArray}(h:ScanAt w S s)(hb:Below B w w')(hS:S<B):ScanAt w' S s:=
 ⟨brd hb h.1 hS,λb=>(hb.cell (p:=⟨S,1+b.toNat,none⟩) hS).trans (h.2 b)⟩
theorem at_any(S:Nat)(s:ByteArray)(i:Int)(w:World)(h:ScanAt w S s)(hi:0≤i)(hi2:i≤140737488355328)(_hs:s.size≤140737488355328):
  Calls Tryz.prog 145 #[.pointer (some ⟨S,0,none⟩),.int .i64 i] w λe w'=>e= .returned (.int .i64 (classAt s i.toNat))∧∃n,w'=w.drewN n:=by
 obtain⟨k,rfl⟩:∃k:Nat,i=k:=⟨i.toNat,by omega⟩;have h0:=h.1;by_cases hlt:k<s.size
 ·have hc:=h.2 s[k];have hb:=(s[k]).toNat_lt;have h256:((s[k].toNat :Nat):Int)<256:=by omega
  have hcl:=hid (classAt_lt hlt);have hki:((k:Nat):Int)<(s.size:Int):=by omega
  clear h;generalize classOf s[k]=c at*;go_enter Tryz.func145,Tryz.ntmps145
  go_wp2;go_quiet(fail);go_wp2;go_ret;exact⟨ret_int (by simp only[Int.toNat_natCast];rw[hcl.out]),_,rfl⟩
 ·have hcl:=hid (classAt_ge (s:=s) (i:=k) (by omega));clear h;go_enter Tryz.func145,Tryz.ntmps145
  go_wp2;go_ret;exact⟨ret_int (by simp only[Int.toNat_natCast];rw[hcl.out]),0,rfl⟩
end Go.Proofs.YtimmfbnjndndlaaGreatDoor
