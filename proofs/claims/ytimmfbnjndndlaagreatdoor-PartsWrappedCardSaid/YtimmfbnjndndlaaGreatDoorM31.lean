/- Texts NL NM NO NP B1 NQ NS. -/
import Derived.Test.YtimmfbnjndndlaaGreatDoorM27
import Derived.Test.YtimmfbnjndndlaaGreatDoorM22
import Derived.Lib.Walk
import Derived.Lib.ItoaWalk
import Derived.Shelf.Strings.SlTrimAscii
import Derived.Lib.FrozenHead2
set_option linter.all false
namespace Go.Proofs.YtimmfbnjndndlaaGreatDoor
open Go.RowKit
set_option maxHeartbeats 8000000
set_option maxRecDepth 100000
section
open Go.Shelf Go.Sort Go.Lib
theorem fmtUI_any(u:Nat)(hu64:u<18446744073709551616)(w:World)(htab:TabB w.heap.size w):
  Calls Tryz.prog 165 #[.int .u64 (u:Int),.int .i64 10] w λe w'=>e= .returned (.string ⟨(Lib.decDigits u).toArray⟩)∧Below w.heap.size w w':=by
 by_cases hs:u<100
 ·have e1:decide (u<100)=true:=decide_eq_true hs;go_enter Tryz.func165,Tryz.ntmps165
  go_wp2_with(go_at_call 150;refine(Tryz.internal_strconv_small u hs _).mono ?_;rintro e w' ⟨rfl,rfl⟩);go_ret;exact⟨rfl,Below.refl _ _⟩
 ·have e1:decide (u<100)=false:=decide_eq_false hs;have hu1:1≤u:=by omega
  have hnd20:Lib.nDigits u≤20:=by have:=Lib.numDigits_eq u hu1 hu64;split at this<;>omega
  have hal:Tryz.prog.arrayLen 214=24:=by kernel_rfl
  have hsl:∀W,(Instr.sliceAt 214 (.pointer (some ⟨w.heap.size,0,none⟩)) none (some (.int .i64 (Lib.nDigits u:Int))) none).run Tryz.prog W= .ok (.slice (some ⟨w.heap.size,0,none⟩) (Lib.nDigits u) 24) W:=λW=>by
   rw[run_sliceAt_array_h W 214 ⟨w.heap.size,0,none⟩ Tryz.underlying214 .i64 (Lib.nDigits u:Int) (by omega) (by rw[hal];omega)];go_simp
  have hH0:=Lib.holds_zero0 w 214 (Lib.nDigits u) (by omega);have hfmt:=Tryz.internal_strconv_formatBase10 w.heap.size 0 24 u (Array.replicate (Lib.nDigits u) 0) (w.alloc (.cells Lib.zeros24 214)) hH0 (by rw[Array.size_replicate];exact Lib.lt_pow_nDigits u) hu64 (by rw[Array.size_replicate];omega);rw[Array.size_replicate]at hfmt;have HH0:=Lib.hid hH0
  have HND:=Lib.hid (show Calls Tryz.prog 151 #[.int .u64 (u:Int)] (w.alloc (.cells Lib.zeros24 214)) (λe w'=>e= .returned (.int .i64 (Lib.nDigits u:Int))∧w'=w.alloc (.cells Lib.zeros24 214)) from
   Tryz.internal_strconv_numDigits u hu1 hu64 _ (htab.on (below1 w _)).here)
  clear hH0 hal;go_enter Tryz.func165,Tryz.ntmps165
  go_wp2_with(go_at_call 151;refine HND.out.mono ?_;rintro e w' ⟨rfl,rfl⟩);refine hfmt.mono ?_;rintro e w' ⟨rfl,k,v',dk,rfl,hF⟩
  have hcv:(convert 194 9 (.slice (some ⟨w.heap.size,0,none⟩) (Lib.nDigits u) 24)).run Tryz.prog ((putRow (λ(b:UInt8)=>Value.int .u8 (b.toNat:Int)) (w.alloc (.cells Lib.zeros24 214)) w.heap.size 0 dk).drewN k)= .ok (.string ⟨(Lib.decDigits u).toArray⟩) ((putRow (λ(b:UInt8)=>Value.int .u8 (b.toNat:Int)) (w.alloc (.cells Lib.zeros24 214)) w.heap.size 0 dk).drewN k):=by
   have h:=run_convert_bytes_back (P:=Tryz.prog) ((putRow (λ(b:UInt8)=>Value.int .u8 (b.toNat:Int)) (w.alloc (.cells Lib.zeros24 214)) w.heap.size 0 dk).drewN k) 194 9 5 ⟨w.heap.size,0,none⟩ 24 (Lib.decDigits u) Tryz.underlying194 Tryz.underlying5 Tryz.underlying9 (λj hj=>by
    rw[Lib.row_is_numeral hF j hj,Lib.add_plain,World.cell?_drewN]
    exact cell?_putRow (λ(b:UInt8)=>Value.int .u8 (b.toNat:Int)) _ w.heap.size 0 _ dk HH0.out (by rw[hF.size,Array.size_replicate]) j (by rw[hF.size];rw[Lib.decDigits_length]at hj;exact hj))
   rw[Lib.decDigits_length]at h;exact h
  go_wp2;go_ret;obtain⟨os,eo⟩:=Lib.fin_at w (.cells Lib.zeros24 214) dk k 0;refine⟨rfl,?_⟩;rw[eo]
  exact⟨rfl,rfl,rfl,by first|(simp[grow];done)|(simp[grow];omega),λi hi=>by
   show((w.drewN k).heap ++os)[i]? =_;rw[Array.getElem?_append_left (by show i<w.heap.size;omega)]
   rfl⟩
theorem fmtU_any(u:Nat)(hu64:u<18446744073709551616)(w:World)(htab:TabB w.heap.size w):
  Calls Tryz.prog 132 #[.int .u64 (u:Int),.int .i64 10] w λe w'=>e= .returned (.string ⟨(Lib.decDigits u).toArray⟩)∧Below w.heap.size w w':=by
 have H:=Lib.hid (fmtUI_any u hu64 w htab);go_enter Tryz.func132,Tryz.ntmps132
 go_wp2_with(go_at_call 165;refine H.out.mono ?_;rintro e w' ⟨rfl,hb⟩);go_ret;exact⟨rfl,hb⟩
end
section
open Go.Shelf
theorem blk_freezeN{w:World}{a:Addr}{n:Nat}{k:Nat}(h:k≠a.block):(w.freeze a n).heap[k]? =w.heap[k]? :=by
 unfold World.freeze;split
 ·rfl
 ·simp only[Array.getElem?_modify];rw[if_neg (λe=>h e.symm)]
theorem below_bytesN(w:World)(e:TypeId)(t:ByteArray):Below w.heap.size w (Lib.bytesWorld w e t):=by
 unfold Lib.bytesWorld;refine⟨?_,?_,?_,?_,λk hk=> ?_⟩
 ·unfold World.freeze;split<;>rfl
 ·unfold World.freeze;split<;>rfl
 ·unfold World.freeze;split<;>rfl
 ·unfold World.freeze;split<;>simp
 ·rw[blk_freezeN (by simp;omega),Below.heap_alloc _ _ _ (by simpa using hk)];rfl
theorem parseU_any(t:ByteArray)(h:∀c∈t.data.toList,isDgt c=true)(hne:t.data.toList≠[])(hl:t.data.toList.length≤9)(w:World):
  Calls Tryz.prog 124 #[.string t,.int .i64 10,.int .i64 64] w λe w'=>e= .returned (.tuple #[.int .u64 (numD t.data.toList:Int),.nilIface])∧Below w.heap.size w w':=by
 have hsz:t.size≤9223372036854775806:=by
  have:t.size=t.data.toList.length:=by show t.data.size=_;simp
  omega
 have H:=hid (show Calls Tryz.prog 161 #[.string t,.int .i64 10,.int .i64 64] w (λe w'=>e= .returned (.tuple #[.int .u64 (numD t.data.toList:Int),.nilIface])∧Below w.heap.size w w') from by
  refine(Any.internal_strconv_ParseUint_10_at64 Tryz.lays287 t hsz w).mono ?_;rintro e w' ⟨rfl,hw⟩;rw[parse9 h hne hl];refine⟨rfl,?_⟩;rcases hw with rfl|rfl
  ·exact Below.refl _ _
  ·exact below_bytesN _ _ _)
 generalize numD t.data.toList=n at*;go_enter Tryz.func124,Tryz.ntmps124
 go_wp2_with(go_at_call 161;refine H.out.mono ?_;rintro e w' ⟨rfl,hb⟩);go_ret2;exact⟨rfl,hb⟩
end
section
open Go.Shelf
theorem nparse_any(s:ByteArray)(h:∀c∈s.data.toList,isDgt c=true)(hl:s.size≤1000)(w:World):
  Calls Tryz.prog 100 #[.string s] w λe w'=>∃u,e= .returned u∧NumS (λb=>w.heap.size≤b) w' u (numD s.data.toList)∧Below w.heap.size w w':=by
 have HS:=hid (And.intro h (show s.data.toList.length=s.size by show s.data.toList.length=s.data.size;simp));clear h;go_enter Tryz.func100,Tryz.ntmps100
 go_wp2;go_loopw[3,4] (λov ix wr=>∃(k:Nat)(o:List Nat),ix= .int .i64 ((s.size:Int)-9*(k:Int))∧k≤s.size∧o.length=k∧wr.ownsRow w.heap.size 184 1 ov k (o.map lim)∧Hid (Limbs o∧lv o+1000000000^k*numD (s.data.toList.take (s.size-9*k))=numD s.data.toList)∧Below w.heap.size w wr) (λ_ ix _=>(intOf ix).toNat);case atStart=>exact⟨0,[],by simp,Nat.zero_le _,rfl,World.ownsRow_nil _ _ _ _,hid ⟨Limbs.nil,by rw[Nat.mul_zero,Nat.sub_zero,<-HS.out.2,List.take_length];simp[lv]⟩,Below.refl _ _⟩
 case round=>
  obtain⟨k,o,rfl,hk,hol,hown,hv,hbel⟩:=hrel;have HOW:=hid hown;have hws:=hbel.size;by_cases hlt:9*k<s.size
  ·obtain⟨e,he⟩:∃e,s.size-9*k=e:=⟨_,rfl⟩;(have hee:(s.size:Int)-9*(k:Int)=(e:Int):=by omega);obtain⟨n1,n2⟩:=numD_step HS.out.1 (e:=e) (by have:=HS.out.2;omega);(have hmx:max (0:Int) ((e:Int)-9)=((e-9:Nat):Int):=by omega);(have hw9:IntKind.i64.wrap ((e:Int)-9)=(e:Int)-9:=by rw[IntKind.wrap_i64];omega);have e1:decide (0<e)=true:=decide_eq_true (by omega);have HP:=hid (λ(t:ByteArray)(ht:t.data.toList=(s.data.toList.take e).drop (e-9))(W:World)=>parseU_any t (by rw[ht];exact λc hc=>HS.out.1 c (List.mem_of_mem_take (List.mem_of_mem_drop hc))) (by rw[ht];intro h0;have:=congrArg List.length h0;rw[List.length_drop,List.length_take]at this;have:=HS.out.2;simp at*;omega) (by rw[ht,List.length_drop,List.length_take];omega) W);have hT:=HP.out (s.extract (e-9) e) (by rw[Lib.extract_data,List.drop_take]);rw[Lib.extract_data,<-List.drop_take]at hT
   have HN:=hid (λ(x:Nat)(hx:numD ((s.data.toList.take e).drop (e-9))=x)=>(show x<1000000000∧List.map lim (o++[x])=List.map lim o++[.int .u64 (x:Int)]∧Hid (Limbs (o++[x])∧lv (o++[x])+1000000000^(k+1)*numD (s.data.toList.take (s.size-9*(k+1)))=numD s.data.toList) from by
    rw[hx]at n1 n2;refine⟨n2,by rw[List.map_append];rfl,hid ⟨hv.out.1.append (Limbs.nil.cons n2),parse_step hol ?_⟩⟩;rw[show s.size-9*(k+1)=e-9 by omega,<-n1,<-he]
    exact hv.out.2))
   have HT:=hid hT;obtain⟨x,hx⟩:∃x,numD ((s.data.toList.take e).drop (e-9))=x:=⟨_,rfl⟩;rw[hx]at HT;have HX:=hid (HN.out x hx);have HB:=hid (And.intro hbel hws);have HEN:=hid (show(e:Int)-9=(s.size:Int)-9*((k+1:Nat):Int) from by omega);rw[hee];(have hes:e≤s.size:=by omega);(have hep:0<e:=by omega);clear hown hT HN hx n1 n2 hv hbel hws hee he
   go_wp2_with(first
    |(go_at_call 124;refine(HT.out _).mono ?_;rintro e1 w1 ⟨rfl,hb1⟩;have HO1:=hid (own_keep (Z:=λ_=>True) HOW.out (.of_below hb1) (λ_ _=>trivial));have HB1:=hid (And.intro (HBEL_trans HB.out.1 hb1) (Nat.le_trans HB.out.2 hb1.size));clear hb1)
    |(at_builtin;refine wpList_append1 rfl (.tmp 23) (.tmp 25) _ rfl Tryz.underlying157 Tryz.eU64 rfl (HO1.out.alloc _) rfl (news:=[.int .u64 (x:Int)]) rfl (one_cell (by simp)) (by simp[Value.oneCell']) (by unfold maxLen;omega) (by omega) (by have:=HB1.out.2;simp;omega) ?_;intro v5 w5 hown5 hg5 hat5))
   go_roundw;(case rel=>exact⟨k+1,o++[x],by rw[<-HEN.out],by omega,by simp[hol],by rw[HX.out.2.1];exact hown5,HX.out.2.2,below_own (HB1.out.1.alloc HB1.out.2 _) (HO1.out.alloc _) hg5 (by have:=HB1.out.2;simp;omega) (Nat.le_refl _)⟩);case measure=>simp[intOf];omega
  ·obtain⟨E,hE⟩:∃E,(s.size:Int)-9*(k:Int)=E:=⟨_,rfl⟩;(have hE0:E≤0:=by omega);have e1:decide ((0:Int)<E)=false:=decide_eq_false (by omega)
   have hval:lv o=numD s.data.toList:=by
    have:=hv.out.2;rw[show s.size-9*k=0 by omega,List.take_zero]at this;simpa[numD]using this
   have HLS:=hid (Lims.of_own hown hv.out.1 (by omega));obtain⟨A5,c5,hv5,-⟩:=Lims.part HLS.out;rw[hol]at hv5;subst hv5
   have HTR:=hid (show Calls Tryz.prog 125 #[.slice A5 k c5] wr (λe w'=>e= .returned (.slice A5 (trimL o k) c5)∧wr=w') from by
    have:=trim_any A5 c5 o _ wr (by rw[hol];exact HLS.out)
    rwa[hol]at this)
   have HV:=hid (And.intro hol (And.intro hv.out.1 (And.intro hval hbel)));rw[hE];clear hown hv hbel hws hval HOW hE;go_wp2_with(go_at_call 125;refine HTR.out.mono ?_;rintro e w6 ⟨rfl,rfl⟩);go_ret;refine⟨_,rfl,NumS.of (HLS.out.take (by rw[HV.out.1];exact trimL_le _ _)) ?_,HV.out.2.2.2⟩;have:=trimL_digs HV.out.2.1 HV.out.2.2.1;rwa[HV.out.1]at this
end
section
open Go.Shelf
open Go.Lib (decDigits)
theorem dgt_contains(c:UInt8)(h:isDgt c=true):[48,49,50,51,52,53,54,55,56,57].contains c=true:=by
 have key:∀k:Fin 256,isDgt (UInt8.ofNat k.val)=true->[48,49,50,51,52,53,54,55,56,57].contains (UInt8.ofNat k.val)=true:=by decide+kernel
 have:=key ⟨c.toNat,c.toNat_lt⟩;simp only[UInt8.ofNat_toNat]at this;exact this h
theorem drop_all{p:UInt8->Bool}:∀l:List UInt8,(∀c∈l,p c=true)->l.dropWhile p=[]
 |[],_=>rfl
 |c::r,h=>by rw[List.dropWhile_cons,if_pos (h c (List.mem_cons_self ..))];exact drop_all r λc hc=>h c (List.mem_cons_of_mem _ hc)
theorem trim_digits(l:List UInt8)(h:∀c∈l,isDgt c=true):Lib.trimS l [48,49,50,51,52,53,54,55,56,57]=[]:=by
 have e:Lib.trimRightS l [48,49,50,51,52,53,54,55,56,57]=[]:=by
  unfold Lib.trimRightS;rw[List.reverse_eq_nil_iff];exact drop_all _ λc hc=>dgt_contains c (h c (List.mem_reverse.1 hc))
 unfold Lib.trimS;rw[e];rfl
theorem dstr_head{n:Nat}(h:10≤n):(dstr n).data[0]? ≠some 48:=by
 have:=dec_head n (by omega);rw[List.head?_eq_getElem?]at this;rw[<-Array.getElem?_toList];exact this
theorem dstr_some(n:Nat):(dstr n).toList.isEmpty =false:=by
 have h:=dec_ne n
 cases he:(dstr n).toList.isEmpty with
 |false=>rfl
 |true=>
  exfalso;apply h;have e:=List.isEmpty_iff.1 he
  have e2:(dstr n).data.toList =[]:=by
   have:=congrArg List.length e;rw[ByteArray.toList_eq]at this;exact List.eq_nil_of_length_eq_zero this
  exact e2
theorem nis_any(n:Nat)(h:(decDigits n).length ≤300)(w:World):
  Calls Tryz.prog 99 #[.string (dstr n)] w λe w'=>e= .returned (.bool true)∧Below w.heap.size w w':=by
 have hsz:=dstr_size n
 have HT:=hid (λ(W:World)=>(show Calls Tryz.prog 123 #[.string (dstr n),.string ⟨#[48,49,50,51,52,53,54,55,56,57]⟩] W (λe w'=>e= .returned (.string ⟨#[]⟩)∧Below W.heap.size W w') from by
  have:=Any.strings_Trim_laid Tryz.lays160 (by kernel_rfl) (dstr n) ⟨#[48,49,50,51,52,53,54,55,56,57]⟩ W (by omega) (by decide) (ascii_of_all (by decide));rw[dstr_list,trim_digits _ (dec_digits n)]at this
  exact this))
 have hne:=dstr_some n;have hhd:= @dstr_head n;by_cases h10:n<10
 ·have h1:(dstr n).size =1:=by rw[hsz,dec_small h10];rfl
  generalize dstr n=s at*;go_enter Tryz.func99,Tryz.ntmps99
  go_wp2_with(go_at_call 123;refine(HT.out _).mono ?_;rintro e w' ⟨rfl,hb⟩);go_ret;exact⟨rfl,hb⟩
 ·have h2:2≤(dstr n).size :=by
   rw[hsz,dec_big h10,List.length_append,List.length_singleton];have:=List.length_pos_iff.2 (dec_ne (n / 10));omega
  have hh:=hhd (by omega);rw[<-hsz]at h;clear hhd hsz h10;generalize dstr n=s at*;have e1:((s.size:Int)==(1:Int))=false:=by simp;omega
  go_enter Tryz.func99,Tryz.ntmps99
  go_wp2_with(go_at_call 123;refine(HT.out _).mono ?_;rintro e w' ⟨rfl,hb⟩);go_ret;refine⟨?_,hb⟩;have hs0:0<s.size:=by omega
  have hbb:(((s[0].toNat :Nat):Int)!=48)=true:=by
   rw[bne_iff_ne];intro e;apply hh;have e2:s[0]=48:=UInt8.toNat_inj.1 (by show s[0].toNat =48;omega);rw[Array.getElem?_eq_getElem (show 0<s.data.size from hs0)];exact congrArg some e2
  show Ending.returned (.bool (((s[0].toNat :Nat):Int)!=48))=_;rw[hbb]
end
section
open Go.Shelf
theorem copyCheck_used(b:Nat)(w:World)(h0:w.cell? ⟨b,0,none⟩=some (.pointer (some ⟨b,0,none⟩))):
  Calls Tryz.prog 166 #[.pointer (some ⟨b,0,none⟩)] w λe w'=>e= .returned (.tuple #[])∧w'=w:=by
 obtain⟨j,hj,_⟩:=Option.map_eq_some_iff.1 Tryz.Builder_Extra_169.sizeBuilder;go_enter Tryz.func166,Tryz.ntmps166
 go_wp2;rw[Lib.run_neq_ptr_same w _ Tryz.underlying193 hj];go_wp2;go_end0;exact⟨rfl,rfl⟩
theorem copyCheck_fresh(b:Nat)(w:World)(h0:w.cell? ⟨b,0,none⟩=some (.pointer none))(hsh:w.shape? b=some (196,2))(hfz:w.frozen? ⟨b,0,none⟩=false):
  Calls Tryz.prog 166 #[.pointer (some ⟨b,0,none⟩)] w λe w'=>e= .returned (.tuple #[])∧w'=w.setCell ⟨b,0,none⟩ (.pointer (some ⟨b,0,none⟩)):=by
 obtain⟨j,hj,hjs⟩:=Option.map_eq_some_iff.1 Tryz.Builder_Extra_169.sizeBuilder;go_enter Tryz.func166,Tryz.ntmps166
 go_wp2;rw[Lib.run_to_unsafe w ⟨b,0,none⟩ Tryz.underlying193 Tryz.underlying252 hj (by rw[hjs];decide) hsh (Nat.zero_lt_succ 1)];simp only[Result.andThen];rw[Oper.upon_value];go_wp2;rw[run_callFunc_extern Tryz.func189 (by kernel_rfl) (by kernel_rfl) (by kernel_rfl) (e:=Extern.AbiNoEscape.same) (by kernel_rfl)];rw[Lib.run_noEscape];simp only[Result.andThen];rw[Oper.upon_value];go_wp2;rw[Lib.run_from_unsafe w ⟨b,0,none⟩ Tryz.underlying252 Tryz.underlying193 hj hsh Tryz.Builder_Extra_169.liesBuilder];simp only[Result.andThen];rw[Oper.upon_value];go_wp2;go_end0;exact⟨rfl,rfl⟩
theorem copyCheck_any(B b:Nat)(bs:List Value)(w:World)(h:Lib.IsBuilderF 196 5 B b bs w):
  Calls Tryz.prog 166 #[.pointer (some ⟨b,0,none⟩)] w λe w'=>e= .returned (.tuple #[])∧(Lib.BuilderAtF 196 5 B b (.pointer (some ⟨b,0,none⟩)) bs w'∧Below B w w'∧Lib.OthersKept 5 (some b) w w'):=by
 rcases h with h|h
 ·refine(copyCheck_fresh b w h.cell0 h.shape h.frozen0).mono ?_;rintro e w' ⟨rfl,rfl⟩;exact⟨rfl,h.used _,(Below.refl B w).setCell (p:=⟨b,0,none⟩) h.1 _,(Lib.OthersKept.refl _ _ w).setCell ⟨b,0,none⟩ rfl _⟩
 ·refine(copyCheck_used b w h.cell0).mono ?_;rintro e w' ⟨rfl,rfl⟩;exact⟨rfl,h,Below.refl B _,Lib.OthersKept.refl _ _ _⟩
theorem writeString_any(B b:Nat)(bs:List Value)(s:ByteArray)(w:World)(h:Lib.IsBuilderF 196 5 B b bs w)(hlen:bs.length+s.size≤140737488355328)(hBw:B≤w.heap.size):
  Calls Tryz.prog 133 #[.pointer (some ⟨b,0,none⟩),.string s] w λe w'=>e= .returned (.tuple #[.int .i64 s.size,.nilIface])∧(Lib.BuilderAtF 196 5 B b (.pointer (some ⟨b,0,none⟩)) (bs++Lib.strCells s) w'∧Below B w w'∧Lib.OthersKept 5 (some b) w w'):=by
 have neB5:((196:TypeId)≠5):=by decide
 obtain⟨i0,hi,hz0,hz1,hz2⟩:=info_parts Tryz.Builder_Extra_169.infoByte;go_enter Tryz.func133,Tryz.ntmps133
 go_wp2_with fail
 refine(copyCheck_any B b bs _ h).mono ?_;rintro e w1 ⟨rfl,h1,hb1,hk1⟩;obtain⟨hB,v,hbk,hown,hne⟩:=h1;have c0:w1.cell? ⟨b,0,none⟩=some (.pointer (some ⟨b,0,none⟩)):=by rw[Lib.cell_of_heap hbk];rfl
 have c1:w1.cell? ⟨b,1,none⟩=some v:=by rw[Lib.cell_of_heap hbk];rfl
 go_wp2_with(at_builtin;refine Lib.wpList_append_own_stringF _ rfl _ _ 194 9 rfl B 5 i0 Tryz.underlying194 Tryz.underlying9 hi hz0 hz1 hz2 _ _ _ rfl hown s rfl ?c3 ?c4 ?c5 ?_);case c3=>unfold maxLen;omega
 case c4=>omega
 case c5=>have:=hb1.size;omega
 intro v' w2 hown' hgrow _
 have hlt:b<w1.heap.size:=by
  rcases Nat.lt_or_ge b w1.heap.size with h'|h'
  ·exact h'
  ·simp[Array.getElem?_eq_none h']at hbk
 have hb2:w2.heap[b]? =some (.cells #[.pointer (some ⟨b,0,none⟩),v] 196 (0,0)):=by
  rw[hgrow.block b hlt (λe=>hne e.symm)];exact hbk
 have d0:w2.cell? ⟨b,0,none⟩=some (.pointer (some ⟨b,0,none⟩)):=by rw[Lib.cell_of_heap hb2];rfl
 have d1:w2.cell? ⟨b,1,none⟩=some v:=by rw[Lib.cell_of_heap hb2];rfl
 have f1:w2.frozen? ⟨b,1,none⟩=false:=Lib.frozen_of_heap hb2 1
 obtain⟨ao,n',cap,rfl⟩:∃ao n' cap,v'= .slice ao n' cap:=by
  rcases hown'.2 with⟨hv,_⟩|⟨g,cap,cur,fz,hv,_⟩
  ·exact⟨_,_,_,hv⟩
  ·exact⟨_,_,_,hv⟩
 go_wp2;go_ret2;refine⟨rfl,?_,?_,(hk1.grown hgrow (Lib.ownsRowF_kind hown)).setCell ⟨b,1,none⟩ rfl _⟩
 ·exact Lib.BuilderAtF.put (T:=196) (e:=5) hB hb2 (bs':=bs++Lib.strCells s) (by simpa[Lib.strCells_length]using hown') neB5
 ·exact(hb1.grown hgrow (by have:=hb1.size;omega) (λk hk=>(hown.lt k hk).1)).setCell (p:=⟨b,1,none⟩) hB _
end
section
open Go.Shelf
theorem builderAt_kept{A B:World}{row:Option Nat}(hg:A.grownBy B row)(hr:∀r,row=some r->∃o:Obj,A.heap[r]? =some o∧o.isCells=false){T e:TypeId}{Bd b:Nat}{p:Value}{bs:List Value}
  (h:Lib.BuilderAtF T e Bd b p bs A):Lib.BuilderAtF T e Bd b p bs B:=by
 obtain⟨hB,v,hb,hown,hne⟩:=h;refine⟨hB,v,blk_kept hg hr hb,?_,hne⟩;obtain⟨hl,ho⟩:=hown;refine⟨hl,?_⟩;rcases ho with h|⟨g,cap,cur,fz,e1,e2,e3,e4⟩
 ·exact Or.inl h
 ·refine Or.inr ⟨g,cap,cur,fz,e1,e2,?_,e4⟩
  have hlt:g<A.heap.size:=by
   rcases Nat.lt_or_ge g A.heap.size with h|h
   ·exact h
   ·rw[Array.getElem?_eq_none h]at e3;cases e3
  refine(((Keeps.refl (λb=>b=g) A).grown hg (λk hk _ e=> ?_)).block g hlt rfl).trans e3;obtain⟨o,h1,h2⟩:=hr k hk;rw[show k=g from e,e3]at h1;injection h1 with h1;subst h1;cases h2
theorem builder_kept{A B:World}{row:Option Nat}(hg:A.grownBy B row)(hr:∀r,row=some r->∃o:Obj,A.heap[r]? =some o∧o.isCells=false){T e:TypeId}{Bd b:Nat}{bs:List Value}
  (h:Lib.IsBuilderF T e Bd b bs A):Lib.IsBuilderF T e Bd b bs B:=
 h.imp (builderAt_kept hg hr) (builderAt_kept hg hr)
end
section
open Go.Shelf
open Go.Lib (decDigits)
attribute [local go_sem] Oper.semAt_some
theorem rep48:∀c:Nat,Lib.repeatL [48] c=List.replicate c 48
 |0=>rfl
 |c+1=>by show[48]++Lib.repeatL [48] c=_;rw[rep48 c];rfl
theorem repeat0_any(c:Nat)(hc:c≤9)(w:World):Calls Tryz.prog 134 #[.string ⟨#[48]⟩,.int .i64 (c:Int)] w λe w'=>e= .returned (.string ⟨(List.replicate c 48).toArray⟩)∧Below w.heap.size w w':=by
 rcases(by omega:c=0∨c=1∨2≤c)with rfl|rfl|h
 ·exact(Tryz.strings_Repeat_zero ⟨#[48]⟩ w).mono λe w' ⟨h1,h2⟩=>⟨h1,h2▸Below.refl _ _⟩
 ·exact(Tryz.strings_Repeat_one ⟨#[48]⟩ w).mono λe w' ⟨h1,h2⟩=>⟨h1,h2▸Below.refl _ _⟩
 ·refine(Tryz.strings_Repeat_main ⟨#[48]⟩ c w h (by omega) (by show 1*c≤_;omega) (by decide)).mono λe w' ⟨h1,h2⟩=>⟨?_,h2⟩
  rw[h1]
  have:Lib.repeatL (⟨#[48]⟩:ByteArray).data.toList c=List.replicate c 48:=by
   exact rep48 c
  rw[this]
theorem builderAt_below{T e:TypeId}{B b:Nat}{p:Value}{bs:List Value}{w w':World}(h:Lib.BuilderAtF T e B b p bs w)(hb:Below w.heap.size w w'):Lib.BuilderAtF T e B b p bs w':=by
 obtain⟨hB,v,h1,⟨hl,ho⟩,hne⟩:=h;refine⟨hB,v,(hb.block b (lt_of_block h1)).trans h1,⟨hl,?_⟩,hne⟩;rcases ho with h|⟨g,cap,cur,fz,e1,e2,e3,e4⟩
 ·exact Or.inl h
 ·exact Or.inr ⟨g,cap,cur,fz,e1,e2,(hb.block g (lt_of_block e3)).trans e3,e4⟩
theorem builder_below{T e:TypeId}{B b:Nat}{bs:List Value}{w w':World}(h:Lib.IsBuilderF T e B b bs w)(hb:Below w.heap.size w w'):Lib.IsBuilderF T e B b bs w':=
 h.imp (λx=>builderAt_below x hb) (λx=>builderAt_below x hb)
structure TxK (B Bb:Nat) (W W':World):Prop where
 below:Below B W W'
 others:Lib.OthersKept 5 (some Bb) W W'
theorem TxK.trans{B Bb:Nat}{X Y V:World}(h:TxK B Bb X Y)(k:TxK B Bb Y V):TxK B Bb X V:=⟨h.below.trans k.below,h.others.trans k.others⟩
theorem TxK.of_below{B Bb:Nat}{W W':World}(h:Below W.heap.size W W')(hB:B≤W.heap.size):TxK B Bb W W':=
 ⟨h.mono hB,λk o hk _ _=>(h.block k (lt_of_block hk)).trans hk⟩
theorem TxK.blk{B Bb:Nat}{W W':World}(h:TxK B Bb W W'){g:Nat}{t:TypeId}{cs:Array Value}(hb:Blk W g t cs)(hg:g≠Bb)(ht:t≠5):Blk W' g t cs:=
 h.others g _ hb (λe=>by injection e with e;exact hg e) (λc fz e=>by injection e with _ e;exact ht e)
theorem TxK.keeps{w W W':World}(h:TxK (w.heap.size+1) (w.heap.size+1) W W'){t:TypeId}{cs:Array Value}(hb:Blk W (w.heap.size+1+1) t cs)(ht:t≠5):Keeps (λb=>b<w.heap.size+3∧b≠w.heap.size+1) W W':=
 ⟨h.below.os,h.below.tape,h.below.output,h.below.size,λb hl ⟨h1,h2⟩=>by
  rcases(by omega:b<w.heap.size+1∨b=w.heap.size+1+1)with h3|rfl
  ·exact h.below.block b h3
  ·exact(h.blk hb (by omega) ht).trans hb.symm⟩
theorem TxK.from_{w W W':World}(h:TxK (w.heap.size+1) (w.heap.size+1) W W'){B:Nat}(hB:w.heap.size+2≤B):KeepsFrom B W W':=
 ⟨h.below.size,λk o hk ho hc=>h.others k o ho (by intro e;injection e with e;omega) (by intro c fz e;subst e;cases hc)⟩
theorem TxK.low{w W W':World}(h:TxK (w.heap.size+1) (w.heap.size+1) W W'):Below w.heap.size W W':=h.below.mono (Nat.le_succ _)
def textR(n:Nat):Value:= .tuple (if(decDigits n).length ≤300 then #[.string (dstr n),.int .i64 0]else #[.string ⟨#[]⟩,.int .i64 2])
theorem textR_le{n:Nat}(h:(decDigits n).length ≤300):textR n= .tuple #[.string (dstr n),.int .i64 0]:=by unfold textR;rw[if_pos h]
theorem textR_gt{n:Nat}(h:¬(decDigits n).length ≤300):textR n= .tuple #[.string ⟨#[]⟩,.int .i64 2]:=by unfold textR;rw[if_neg h]
theorem byteCells_append(a b:List UInt8):Lib.byteCells (a++b)=Lib.byteCells a++Lib.byteCells b:=by simp[Lib.byteCells]
structure TxL (w W:World) (A:Option Addr) (cap la:Nat) (xs:List Nat) (pre:List (Fin xs.length)) (txt:List UInt8):Prop where
 bn:Blk W w.heap.size 157 #[.slice A la cap]
 bs:Blk W (w.heap.size+1+1) 157 #[.slice A la cap]
 bu:Lib.IsBuilderF 196 5 (w.heap.size+1) (w.heap.size+1) (Lib.byteCells txt) W
 len:txt.length≤18*pre.length
 val:pre=revF xs.length pre.length->(pre.length=0∧txt=[])∨(0<pre.length∧txt=decDigits (lv (xs.drop (xs.length-pre.length))))
 below:Below w.heap.size w W
theorem ntext_any(Z:Zone)(v:Value)(n:Nat)(w:World)(hn:NumS Z w v n)(h1:(digs n).length ≤1000)(htab:TabB w.heap.size w):
  Calls Tryz.prog 102 #[v] w λe w'=>e= .returned (textR n)∧Below w.heap.size w w':=by
 obtain⟨A,cap,rfl,hl1⟩:=Lims.part hn;have HN:=hid hn;obtain⟨la,hla⟩:∃la,(digs n).length =la:=⟨_,rfl⟩;rw[hla]at HN hl1 h1 ;rw[hla];have HL:=hid hla;clear hn hla;have HTB:=hid htab;clear htab;refine(callsIn_wide (n:=6)).1 ?_;refine callsIn_of_wp_marks Tryz.func102 rfl trivial ?_ rfl;simp only[Tryz.ntmps102,List.size_toArray,List.length_cons,List.length_nil,Nat.reduceAdd,Nat.reduceSub,Array.replicate_succ,Array.replicate_zero,List.push_toArray,List.append_toArray,List.nil_append,List.cons_append];by_cases h0:la=0
 ·have hn0:n=0:=digs_nil.1 (List.eq_nil_of_length_eq_zero (by rw[HL.out,h0]));subst hn0;subst h0;have hd:decDigits 0=[48]:=dec_small (by decide);have hs:dstr 0=⟨#[48]⟩:=by unfold dstr;rw[hd]
  rw[textR_le (by rw[hd];decide),hs]
  gi_wp2
  refine⟨.tuple #[.string ⟨#[48]⟩,.int .i64 0],by simp[results,Tryz.f102,go_sem],rfl,(Below.refl _ _).alloc (Nat.le_refl _) _⟩
 ·have e1:((la:Int)==(0:Int))=false:=by simp;exact h0
  gi_wp2_with (refine⟨trivial,?_⟩;gi_at_call 126;refine(back_in Fence.wide _ trivial rfl _ _ _ _).mono ?_;rintro e w' ⟨rfl,rfl⟩)
  have bN:=Blk.new w 157 #[.slice A la cap];have bB:=Blk.new (w.alloc (.cells #[.slice A la cap] 157)) 196 #[.pointer none,.slice none 0 0];rw[World.size_alloc]at bB;have bS:=Blk.new ((w.alloc (.cells #[.slice A la cap] 157)).alloc (.cells #[.pointer none,.slice none 0 0] 196)) 157 #[.slice A la cap];rw[World.size_alloc,World.size_alloc]at bS;have hB0:Below w.heap.size w (((w.alloc (.cells #[.slice A la cap] 157)).alloc (.cells #[.pointer none,.slice none 0 0] 196)).alloc (.cells #[.slice A la cap] 157)):=(((Below.refl _ w).alloc (Nat.le_refl _) _).alloc (by simp) _).alloc (by simp;omega) _
  have h00:TxL w (((w.alloc (.cells #[.slice A la cap] 157)).alloc (.cells #[.pointer none,.slice none 0 0] 196)).alloc (.cells #[.slice A la cap] 157)) A cap la (digs n) [] []:=
   ⟨(bN.alloc _).alloc _,bS,Or.inl ⟨Nat.le_refl _,.slice none 0 0,bB.alloc _,⟨rfl,Or.inl ⟨rfl,rfl⟩⟩,by intro h;cases h⟩,Nat.zero_le _,λ_=>Or.inl ⟨rfl,rfl⟩,hB0⟩
  have hsz:(((w.alloc (.cells #[.slice A la cap] 157)).alloc (.cells #[.pointer none,.slice none 0 0] 196)).alloc (.cells #[.slice A la cap] 157)).heap.size =w.heap.size+3:=by simp
  clear bN bB bS;generalize (((w.alloc (.cells #[.slice A la cap] 157)).alloc (.cells #[.pointer none,.slice none 0 0] 196)).alloc (.cells #[.slice A la cap] 157))=W0 at*
  refine wpIn_rangeFunc_ownG rfl (by omega) (gf:=162) (lb:=#[.pointer (some ⟨w.heap.size+1+1,0,none⟩)]) rfl trivial (enters_of Tryz.func162 (by kernel_rfl) rfl)
   (back_stops Fence.wide _ trivial rfl (by omega) (λb=>b<w.heap.size+3∧b≠w.heap.size+1) (λb=>Z b∧b<w.heap.size) (w.heap.size+1+1) A cap (digs n) (by rw[HL.out];omega) W0 (by omega) (by omega) (by rw[HL.out];exact h00.bs.cell 0) (by rw[HL.out];exact(Lims.live HN.out).keep (.of_below hB0)) (λb hb=>⟨by have:=hb.2;omega,by have:=hb.2;omega⟩))
   (λh k=>Keeps.trans h k) (keepsZ_b (by intro b hb;have:=hb.1;omega)) (Below.refl _ _) (λ_=>rfl)
   (λpre W=>∃txt,TxL w W A cap la (digs n) pre txt)
   (λ_ _ _=>False)
   (λs W W' row hs hg hr=>by
    obtain⟨txt,h⟩:=hs;have hr':∀r,row=some r->∃o:Obj,W.heap[r]? =some o∧o.isCells=false:=λr e=>(hr r e).2
    exact⟨txt,blk_kept hg hr' h.bn,blk_kept hg hr' h.bs,builder_kept hg hr' h.bu,h.len,h.val,h.below.grown hg h.below.size (λk e=>by have:=(hr k e).1;omega)⟩)
   (λ_ _ _ _ _ hs _ _=>hs)
   ⟨_,h00⟩
   (λx=>{tmps:=#[.slice A la cap,.pointer (some ⟨w.heap.size,0,none⟩),.string ⟨#[]⟩,.int .i64 0,.pointer (some ⟨w.heap.size+1,0,none⟩),.int .i64 ((x.1:Nat):Int),.int .u64 (((digs n)[x.1]:Nat):Int),undef,.slice A la cap,.int .i64 la,.bool false,.slice A la cap,.func (.func 162) #[] #[.pointer (some ⟨w.heap.size+1+1,0,none⟩)],.int .i64 ((x.1:Nat):Int),.int .u64 (((digs n)[x.1]:Nat):Int),undef,undef,undef,undef,undef,undef,undef,undef,undef,undef,undef,undef,undef,undef,undef,undef,undef],defers:=[]}) ?assign ?body ?done ?stop
  case assign=>
   intro l x W K hK;unfold encL
   gi_wp2
   exact hK
  case body=>
   rintro l pre x W ⟨txt,HD⟩ hpl;have hx:=(digs_canon n).1.limbs.get x.2;(have hpl':pre.length<la:=by rw[<-HL.out];exact hpl);have c0:=HD.bn.at0;(have hx1:x.1<la:=by rw[<-HL.out];exact x.2);have hpL:(decDigits (digs n)[x.1]).length ≤9:=dec_length_le (by decide) hx;have HF:=hid (fmtU_any (digs n)[x.1] (by omega) W ((HTB.out.on HD.below).mono HD.below.size));(have hWB:w.heap.size+1≤W.heap.size:=by have h:=lt_of_cell c0;exact h);obtain⟨ps,hps⟩:∃ps:ByteArray,(⟨(decDigits (digs n)[x.1]).toArray⟩:ByteArray)=ps:=⟨_,rfl⟩;(have hpsz:ps.size=(decDigits (digs n)[x.1]).length :=by rw[<-hps];exact dstr_size _);(have hpc:Lib.strCells ps=Lib.byteCells (decDigits (digs n)[x.1]):=by rw[<-hps];rfl);rw[hps]at HF;have HDV:=hid (And.intro HD (And.intro hpsz (And.intro hpc hWB)))
   have HST:=hid (And.intro (λ(hj:x.1+1<(digs n).length)=>(show decDigits (lv ((digs n).drop x.1))=decDigits (lv ((digs n).drop (x.1+1)))++(List.replicate (9-(decDigits ((digs n)[x.1]'x.2)).length) 48++decDigits ((digs n)[x.1]'x.2)) from text_step (digs_canon n).1 hj))
    (λ(hj:x.1+1=(digs n).length)=>(show lv ((digs n).drop x.1)=(digs n)[x.1]'x.2 from text_top hj)))
   generalize (digs n)[x.1]=xv at*;clear hps hpc HD;(have hps9:ps.size≤9:=by omega);have hwl:IntKind.i64.wrap ((la:Int)-1)=(la:Int)-1:=by rw[IntKind.wrap_i64];omega
   gi_wp2
   refine⟨trivial,?_⟩;refine(CallsIn.inRound l (callsIn_wide.2 HF.out)).mono ?_;rintro e w1 ⟨rfl,hb1⟩;have k1:TxK (w.heap.size+1) (w.heap.size+1) W w1:=TxK.of_below hb1 HDV.out.2.2.2;have c1:=(k1.blk HDV.out.1.bn (by omega) (by decide)).at0;have bu1:=builder_below HDV.out.1.bu hb1;have s1:=hb1.size;have HK1:=hid (And.intro k1 bu1);have HTL:=hid (show txt.length≤18000 by have:=HDV.out.1.len;omega);have HPS:=hid hpsz;clear k1 bu1 hb1 HF c0 hpsz;by_cases hlt:x.1+1<la
   ·have e2:decide (((x.1:Nat):Int)<(la:Int)-1)=true:=decide_eq_true (by omega);(have hw9:IntKind.i64.wrap (9-(ps.size:Int))=((9-ps.size:Nat):Int):=by rw[IntKind.wrap_i64];omega);have HRP:=hid (repeat0_any (9-ps.size) (by omega) w1);dsimp only
    gi_wp2
    refine⟨trivial,?_⟩;refine(CallsIn.inRound l (callsIn_wide.2 HRP.out)).mono ?_;rintro e w2 ⟨rfl,hb2⟩;have k2:TxK (w.heap.size+1) (w.heap.size+1) W w2:=HK1.out.1.trans (TxK.of_below hb2 (by omega));have bu2:=builder_below HK1.out.2 hb2;have s2:=hb2.size;obtain⟨rp,hrp⟩:∃rp:ByteArray,(⟨(List.replicate (9-ps.size) 48).toArray⟩:ByteArray)=rp:=⟨_,rfl⟩;(have hrc:Lib.strCells rp=Lib.byteCells (List.replicate (9-ps.size) 48):=by rw[<-hrp];rfl);(have hrs:rp.size≤9:=by rw[<-hrp];show(List.replicate (9-ps.size) (48:UInt8)).toArray.size ≤9;simp);rw[hrp];have HW:=hid (writeString_any (w.heap.size+1) (w.heap.size+1) (Lib.byteCells txt) rp w2 bu2 (by rw[show(Lib.byteCells txt).length =txt.length by simp[Lib.byteCells]];have:=HTL.out;omega) (by omega));have HK2:=hid (And.intro k2 hrc);clear k2 bu2 hb2 HRP HK1 hrc hrp
    gi_wp2
    refine⟨trivial,?_⟩;refine(CallsIn.inRound l (callsIn_wide.2 HW.out)).mono ?_;rintro e w3 ⟨rfl,hB3,hb3,ho3⟩;have HK3:=hid (HK2.out.1.trans ⟨hb3,ho3⟩);have s3:=hb3.size;have HW2:=hid (writeString_any (w.heap.size+1) (w.heap.size+1) (Lib.byteCells txt++Lib.strCells rp) ps w3 (Or.inr hB3) (by rw[List.length_append,show(Lib.byteCells txt).length =txt.length by simp[Lib.byteCells],HK2.out.2,show(Lib.byteCells (List.replicate (9-ps.size) 48)).length =9-ps.size by simp[Lib.byteCells]];have:=HTL.out;omega) (by omega));clear hB3 hb3 ho3 HW
    gi_wp2
    refine⟨trivial,?_⟩;refine(CallsIn.inRound l (callsIn_wide.2 HW2.out)).mono ?_;rintro e w4 ⟨rfl,hB4,hb4,ho4⟩;have k4:=HK3.out.trans ⟨hb4,ho4⟩
    have hcs:Lib.byteCells txt++Lib.strCells rp++Lib.strCells ps=Lib.byteCells (txt++(List.replicate (9-(decDigits xv).length) 48++decDigits xv)):=by
     rw[HK2.out.2,HDV.out.2.2.1,byteCells_append,byteCells_append,List.append_assoc,HDV.out.2.1]
    rw[hcs]at hB4;have HF:=hid (And.intro k4 hB4);clear k4 hB4 hb4 ho4 HW2 HK3 hcs
    gi_wp2
    refine⟨HF.out.1.from_ (by omega),HF.out.1.keeps HDV.out.1.bs (by decide),_,HF.out.1.blk HDV.out.1.bn (by omega) (by decide),HF.out.1.blk HDV.out.1.bs (by omega) (by decide),Or.inr HF.out.2,?_,λh=>Or.inr ?_,HDV.out.1.below.trans HF.out.1.low⟩
    ·have:=HDV.out.1.len;simp only[List.length_append,List.length_replicate,List.length_cons,List.length_nil];omega
    ·rw[List.length_append]at h⊢;obtain⟨q1,q2⟩:=DvL.order h hpl;refine⟨by simp,?_⟩;rcases HDV.out.1.val q1 with⟨h0,_⟩|⟨h0,h1⟩
     ·have:=HL.out;omega
     ·(have e1:(digs n).length -(pre.length+[x].length)=x.1:=by simp only[List.length_cons,List.length_nil];omega);(have e2:(digs n).length -pre.length=x.1+1:=by omega);rw[e1,HST.out.1 (by have:=HL.out;omega),h1,e2]
   ·have e2:decide (((x.1:Nat):Int)<(la:Int)-1)=false:=decide_eq_false (by omega);have HW2:=hid (writeString_any (w.heap.size+1) (w.heap.size+1) (Lib.byteCells txt) ps w1 HK1.out.2 (by rw[show(Lib.byteCells txt).length =txt.length by simp[Lib.byteCells]];have:=HTL.out;omega) (by omega));dsimp only
    gi_wp2
    refine⟨trivial,?_⟩;refine(CallsIn.inRound l (callsIn_wide.2 HW2.out)).mono ?_;rintro e w4 ⟨rfl,hB4,hb4,ho4⟩;have k4:=HK1.out.1.trans ⟨hb4,ho4⟩
    have hcs:Lib.byteCells txt++Lib.strCells ps=Lib.byteCells (txt++decDigits xv):=by
     rw[HDV.out.2.2.1,byteCells_append]
    rw[hcs]at hB4;have HF:=hid (And.intro k4 hB4);clear k4 hB4 hb4 ho4 HW2 HK1 hcs
    gi_wp2
    refine⟨HF.out.1.from_ (by omega),HF.out.1.keeps HDV.out.1.bs (by decide),_,HF.out.1.blk HDV.out.1.bn (by omega) (by decide),HF.out.1.blk HDV.out.1.bs (by omega) (by decide),Or.inr HF.out.2,?_,λh=>Or.inr ?_,HDV.out.1.below.trans HF.out.1.low⟩
    ·have:=HDV.out.1.len;simp only[List.length_append,List.length_cons,List.length_nil];omega
    ·rw[List.length_append]at h⊢;obtain⟨q1,q2⟩:=DvL.order h hpl;refine⟨by simp,?_⟩;(have hxl:x.1+1=(digs n).length :=by have:=HL.out;omega);rcases HDV.out.1.val q1 with⟨h0,h1⟩|⟨h0,_⟩
     ·(have e1:(digs n).length -(pre.length+[x].length)=x.1:=by simp only[List.length_cons,List.length_nil];omega);rw[e1,HST.out.2 hxl,h1,List.nil_append]
     ·omega
  case done=>
   rintro D ys W hD rfl ⟨txt,HD⟩ hK;have hRL:=revF_length (Nat.le_refl (digs n).length);have hv:=HD.val (by rw[hRL]);rw[hRL]at hv
   have htx:txt=decDigits n:=by
    rcases hv with⟨q,_⟩|⟨_,q⟩
    ·have:=HL.out;omega
    ·rw[q,Nat.sub_self,List.drop_zero,(digs_canon n).2]
   subst htx;have hml:=HD.bu;(have hlc:((Lib.byteCells (decDigits n)).length :Int)=((decDigits n).length :Int):=by simp[Lib.byteCells]);(have hlen:(decDigits n).length ≤18*la:=by have:=HD.len;rw[hRL,HL.out]at this;exact this);have HLN:=hid (Tryz.Builder_Len_f _ _ _ W hml);rw[hlc]at HLN;have HSTR:=hid (Tryz.Builder_String_any_k _ _ (decDigits n) W hml (by have:=HD.below.size;have:=hB0.size;have:=lt_of_cell HD.bs.at0;exact Nat.le_of_lt (Nat.lt_of_le_of_lt (Nat.le_succ _) this)));have HDL:=hid HD.below;obtain⟨dn,hdn⟩:∃dn,(decDigits n).length =dn:=⟨_,rfl⟩;rw[hdn]at HLN hlen;have HDN:=hid hdn;clear hml hlc hv hRL HD hdn;(have hW3:w.heap.size+3≤D:=by omega);by_cases hg:dn≤300
   ·have e3:decide ((dn:Int)>300)=false:=decide_eq_false (by omega);have e4:decide ((300:Int)<(dn:Int))=false:=decide_eq_false (by omega)
    gi_wp2
    refine⟨trivial,?_⟩;refine(callsIn_wide.2 HLN.out).mono ?_;rintro e w1 ⟨rfl,rfl⟩
    gi_wp2
    refine⟨trivial,?_⟩;refine(callsIn_wide.2 HSTR.out).mono ?_;rintro e w2 ⟨rfl,hB2,hb2,ho2⟩;have hK2:w2.heap[D]? =some (.deferred (some [])):=ho2 D _ hK (by intro e;injection e with e;omega) (by intro c fz e;cases e);have hb2':=HDL.out.trans (hb2.mono (Nat.le_succ _));clear hB2 hb2 ho2 HSTR HLN
    gi_wp2
    refine⟨by simp,.inl ⟨_,_,rfl,run_takeDeferred hK2,?_⟩⟩;refine⟨.tuple #[.string (dstr n),.int .i64 0],by simp[results,Tryz.f102,go_sem,dstr],?_,hb2'.trans (belowK_b (w:=w) (Nat.le_refl _) w2 D _ _ (by omega) hK2 rfl rfl)⟩;rw[textR_le (by rw[HDN.out];exact hg)]
   ·have e3:decide ((dn:Int)>300)=true:=decide_eq_true (by omega);have e4:decide ((300:Int)<(dn:Int))=true:=decide_eq_true (by omega)
    gi_wp2
    refine⟨trivial,?_⟩;refine(callsIn_wide.2 HLN.out).mono ?_;rintro e w1 ⟨rfl,rfl⟩;clear HSTR HLN
    gi_wp2
    refine⟨by simp,.inl ⟨_,_,rfl,run_takeDeferred hK,?_⟩⟩;refine⟨.tuple #[.string ⟨#[]⟩,.int .i64 2],by simp[results,Tryz.f102,go_sem],?_,HDL.out.trans (belowK_b (w:=w) (Nat.le_refl _) w1 D _ _ (by omega) hK rfl rfl)⟩;rw[textR_gt (by rw[HDN.out];exact hg)]
  case stop=>
   rintro D c pre W _ _ h _;exact h.elim
end
end Go.Proofs.YtimmfbnjndndlaaGreatDoor
