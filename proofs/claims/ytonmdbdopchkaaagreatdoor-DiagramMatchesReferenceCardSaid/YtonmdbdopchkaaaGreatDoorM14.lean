/- Texts W23 W24 B1. -/
import Derived.Test.YtonmdbdopchkaaaGreatDoorM0
import Derived.Test.YtonmdbdopchkaaaGreatDoorM9
import Derived.Lib.OthersKept
import Derived.Lib.ItoaLen
import Derived.Laws.IdiomStrings
import Derived.Test.YtonmdbdopchkaaaGreatDoorM11
import Derived.Lib.FrozenHead2
set_option linter.all false
namespace Go.Proofs.YtonmdbdopchkaaaGreatDoor
open Go.RowKit
set_option maxHeartbeats 4000000
set_option maxRecDepth 100000
section
open Go.Shelf
def zBJ(B:Nat)(w:World):Prop:=Lib.TabBelow Tryz.prog B w "internal/strconv.uint64pow10" .u64 Lib.pow10Tab
theorem zBJ.on{B:Nat}{w w':World}(h:zBJ B w)(hb:Below B w w'):zBJ B w':=Lib.TabBelow.on h hb
theorem zBJ.mono{B B':Nat}{w:World}(h:zBJ B w)(hB:B≤B'):zBJ B' w:=λw' hb=>h w' (hb.mono hB)
theorem zBJ.here{B:Nat}{w:World}(h:zBJ B w):Lib.TabIs Tryz.prog w "internal/strconv.uint64pow10" .u64 Lib.pow10Tab:=Lib.TabBelow.here h
theorem zDJ{W:World}{g base:Nat}{e:TypeId}{cells:Array Value}(h:Blk W g e cells)(hb:base≤g)(hc:cells.size≤maxLen):W.ownsRow base e 1 (.slice (some ⟨g,0,none⟩) cells.size cells.size) cells.size cells.toList:=
 ⟨by simp,.inr ⟨g,cells.size,cells,rfl,hb,h,Nat.le_refl _,hc,by simp,by rw[Nat.mul_one];exact List.take_of_length_le (by simp)⟩⟩
theorem zKW{W:World}{g base n size:Nat}{t e:TypeId}{cs:Array Value}{v:Value}{xs:List Value}(h:Blk W g t cs)(ho:W.ownsRow base e size v n xs)(hne:t≠e):v.ownBlock≠some g:=by
 rcases ho.2 with⟨rfl,_⟩|⟨g',cap,cur,rfl,_,hg,_⟩
 ·intro h;cases h
 ·intro e';injection e' with e';simp only at e';subst e';unfold Blk at h;rw[h]at hg;injection hg with hg;injection hg with _ ht;exact hne ht
theorem Blk.othersKept{W W':World}{g:Nat}{t e:TypeId}{cs:Array Value}{b:Option Nat}(h:Blk W g t cs)(hk:Lib.OthersKept e b W W')(hb:some g≠b)(ht:t≠e):Blk W' g t cs:=
 hk g _ h hb λc fz e'=>by injection e' with _ e';exact ht e'
theorem Tryz.eU8:zCV Tryz.prog 5 1 1:=zE5 (z:= .int .u8 0) (by kernel_rfl) rfl (by decide)
def zEx(n:zB):List (List Int):=[n.cuts,n.kids]
def zF5(n:zB)(k:Nat):List UInt8:=(if n.leaf=true then 49 else 48)::(Lib.itoa n.fact++((zEx n).take k).flatMap λl=>58::zBl l)
def inT(n:zB)(k j:Nat):List UInt8:=zF5 n k++58::zBl (((zEx n).getD k []).take j)
theorem zSi(n:zB):zF5 n 2=zDk n:=by simp[zF5,zDk,zEx]
theorem zRX(n:zB):zF5 n 0=(if n.leaf=true then 49 else 48)::Lib.itoa n.fact:=by simp[zF5]
theorem zN6(n:zB)(k:Nat):inT n k 0=zF5 n k++[58]:=by simp[inT,zBl]
theorem zSj(n:zB)(k j:Nat)(hj:j<((zEx n).getD k []).length):inT n k (j+1)=inT n k j++Lib.itoa (((zEx n).getD k [])[j])++[44]:=by
 unfold inT;rw[List.take_succ_eq_append_getElem hj];generalize ((zEx n).getD k [])=l at*;unfold zBl;rw[List.flatMap_append];simp
theorem zUA(n:zB)(k:Nat)(hk:k<2):inT n k ((zEx n).getD k []).length =zF5 n (k+1):=by
 unfold inT zF5 zEx;have:k=0∨k=1:=by omega
 rcases this with rfl|rfl<;>simp
theorem zG8(l:List Int)(h:∀x∈l,I64 x):(zBl l).length ≤22*l.length:=by
 induction l with
 |nil=>simp[zBl]
 |cons a r ih=>
  rw[zEK];have:=ih λx hx=>h x (List.mem_cons_of_mem _ hx)
  have ha:=h a (by simp);have:=Lib.itoa_length_le a ha.1 ha.2;simp only[List.length_append,List.length_cons];omega
theorem zPb{n:zB}(hf:I64 n.fact)(hc:∀x∈n.cuts,I64 x)(hk:∀x∈n.kids,I64 x)(hcl:n.cuts.length≤2000000)(hkl:n.kids.length≤2000000)(k j:Nat)(hk2:k<2):(inT n k j).length ≤200000000:=by
 have h1:=Lib.itoa_length_le n.fact hf.1 hf.2;have h2:=zG8 n.cuts hc;have h3:=zG8 n.kids hk
 have h4:(zBl (n.cuts.take j)).length ≤22*n.cuts.length:=by
  have:=zG8 (n.cuts.take j) (λx hx=>hc x (List.mem_of_mem_take hx));have:(n.cuts.take j).length ≤n.cuts.length:=by simp;omega
  omega
 have h5:(zBl (n.kids.take j)).length ≤22*n.kids.length:=by
  have:=zG8 (n.kids.take j) (λx hx=>hk x (List.mem_of_mem_take hx));have:(n.kids.take j).length ≤n.kids.length:=by simp;omega
  omega
 have:k=0∨k=1:=by omega
 unfold inT zF5 zEx;rcases this with rfl|rfl<;>simp<;>omega
theorem zSk{n:zB}(hf:I64 n.fact)(hc:∀x∈n.cuts,I64 x)(hk:∀x∈n.kids,I64 x)(hcl:n.cuts.length≤2000000)(hkl:n.kids.length≤2000000)(k:Nat)(hk2:k<2):(zF5 n k).length ≤200000000:=by
 have:=zPb hf hc hk hcl hkl k 0 hk2;rw[zN6]at this;simp at this;omega
theorem zRY(Z:zD)(n:zB)(cs:List Value)(w:World)(hn:zd Z w cs n)(htab:zBJ w.heap.size w)(hcl:n.cuts.length≤2000000)(hkl:n.kids.length≤2000000):
  Calls Tryz.prog 74 #[.agg cs.toArray] w λe w'=>e= .returned (.string ⟨(zDk n).toArray⟩)∧Below w.heap.size w w':=by
 obtain⟨vc,vk,rfl,hf,hic,hik⟩:=hn;have HC:=hid hic;have HK:=hid hik;obtain⟨⟨AC,capC,rfl,c1,c2,c3,-⟩,c5⟩:=hic;obtain⟨⟨AK,capK,rfl,k1,k2,k3,-⟩,k5⟩:=hik;have zEG:=hid htab;have HL:=hid (zSk hf c5 k5 hcl hkl);have HL2:=hid (zPb hf c5 k5 hcl hkl);have HF:=hid hf;clear htab hf;have HP0:=hid (zRX n);have HPA:=hid (zSi n);have HI0:=hid (zN6 n);have HIS:=hid (zSj n);have HIA:=hid (zUA n);have e2u:(Tryz.prog.underlying 5)=some (.int .u8):=Tryz.underlying5;cases hlf:n.leaf
 all_goals
  rw[hlf]at HP0;go_enter Tryz.func74,Tryz.ntmps74
  go_wp2_with fail
  first
   |(refine(Tryz.strconv_AppendInt_10 w.heap.size 1 n.fact HF.out.1 HF.out.2 _ (Lib.byteCells [48]) _ (zDJ (cells:=#[.int .u8 48]) (by have:=Blk.new (w.alloc (.cells #[.bool false,.int .i64 n.fact,.slice AC n.cuts.length capC,.slice AK n.kids.length capK] 51)) 5 #[.int .u8 48];simpa using this) (by simp) (by simp[maxLen])) (by simp;omega) (by omega) ((zEG.out).on (zAy w _ _))).mono ?_)
   |(refine(Tryz.strconv_AppendInt_10 w.heap.size 1 n.fact HF.out.1 HF.out.2 _ (Lib.byteCells [49]) _ (zDJ (cells:=#[.int .u8 49]) (by have:=Blk.new (w.alloc (.cells #[.bool true,.int .i64 n.fact,.slice AC n.cuts.length capC,.slice AK n.kids.length capK] 51)) 5 #[.int .u8 49];simpa using this) (by simp) (by simp[maxLen])) (by simp;omega) (by omega) ((zEG.out).on (zAy w _ _))).mono ?_)
  rintro e w1 ⟨v1,rfl,hown1,hb1,hk1⟩;have hbx:=hk1 w.heap.size _ ((Below.heap_alloc _ _ _ (by simp)).trans (heap_alloc_new w _)) (by simp) (by intro c fz e;injection e with _ e;exact absurd e (by decide));have hbx':Blk w1 w.heap.size 51 _:=hbx;have r2:=hbx'.at2;have r3:=hbx'.at3;have hsz1:w.heap.size<w1.heap.size:=hbx'.lt;have hbl1:=Below.trans (zAy w _ _) hb1;have zLu:=hid hown1;have HBL:=hid hbl1
  obtain⟨A1,n1,cap1,rfl⟩:∃A1 n1 cap1,v1= .slice A1 n1 cap1:=by
   rcases hown1.2 with⟨hv,_⟩|⟨g,cap,cur,hv,_⟩
   ·exact⟨_,_,_,hv⟩
   ·exact⟨_,_,_,hv⟩
  clear hbx hbx' hk1 hb1 hbl1 hown1;go_wp2;go_loopw[3,26] (λv i wr=>∃k:Nat,k≤2∧i= .int .i64 k∧wr.ownsRow w.heap.size 5 1 v (zF5 n k).length (Lib.byteCells (zF5 n k))∧Below w.heap.size w wr∧Blk wr w1.heap.size 31 #[.slice AC n.cuts.length capC,.slice AK n.kids.length capK]) (λ_ i _=>2-(intOf i).toNat)
  case atStart=>
   have hT:=Blk.new w1 31 #[.slice AC n.cuts.length capC,.slice AK n.kids.length capK];refine⟨0,by omega,rfl,?_,HBL.out.alloc HBL.out.size _,hT⟩;rw[HP0.out];have:=zLu.out.alloc (.cells #[.slice AC n.cuts.length capC,.slice AK n.kids.length capK] 31);simpa[Lib.byteCells,Nat.add_comm]using this
  case round=>
   obtain⟨k,hk,rfl,hown,hbel,hT⟩:=hrel;clear r2 r3;by_cases hlt:k<2
   ·have hsec:∃A cap,wr.cell? ⟨w1.heap.size,k,none⟩=some (.slice A ((zEx n).getD k []).length cap)∧zL Z w (.slice A ((zEx n).getD k []).length cap) ((zEx n).getD k []):=by
     (have:k=0∨k=1:=by omega);rcases this with rfl|rfl
     ·exact⟨AC,capC,hT.cell 0,HC.out⟩
     ·exact⟨AK,capK,hT.cell 1,HK.out⟩
    obtain⟨A,cap,hcell,hints⟩:=hsec;have HIN:=hid hints;have HLK:=hid (λj=>HL2.out k j hlt);have HLP:=hid (HL.out k hlt);have HJ0:=hid (HI0.out k);have HJS:=hid (HIS.out k);have HJA:=hid (HIA.out k hlt);obtain⟨⟨_,_,_,l1,l2,l3,-⟩,l5⟩:=hints;generalize ((zEx n).getD k [])=l at*;have hown2:=hown.alloc (.cells #[.int .u8 58] 5);have hT2:=hT.alloc (.cells #[.int .u8 58] 5);have hbel2:=hbel.alloc hbel.size (.cells #[.int .u8 58] 5);have zh:=hid (And.intro hbel2 hT2);have HO2:=hid hown2;clear hown hbel hT hown2 hT2 hbel2;go_wp2_with(at_builtin;refine zf rfl (.tmp 30) (.tmp 31) _ rfl Tryz.underlying67 Tryz.eU8 rfl HO2.out rfl (news:=[.int .u8 58]) rfl (one_cell (by simp)) (by simp[Value.oneCell']) (by have:=HLP.out;unfold maxLen;omega) (by have:=HLP.out;omega) (by have:=zh.out.1.size;simpa using this) ?_;intro v5 w5 hown5 hg5 hat5);have hT5:=zh.out.2.grown hg5 (zKW zh.out.2 HO2.out (by decide));have hB5:=zx zh.out.1 HO2.out hg5 zh.out.1.size (Nat.le_refl _);have HS5:=hid (And.intro hown5 (And.intro hB5 hT5));clear hT5 hB5 hown5 hg5 hat5;go_wp2;go_loopw[3,35] (λv i wr=>∃j:Nat,j≤l.length∧i= .int .i64 j∧wr.ownsRow w.heap.size 5 1 v (inT n k j).length (Lib.byteCells (inT n k j))∧Below w.heap.size w wr∧Blk wr w1.heap.size 31 #[.slice AC n.cuts.length capC,.slice AK n.kids.length capK]) (λ_ i _=>l.length-(intOf i).toNat)
    case atStart=>
     refine⟨0,by omega,rfl,?_,HS5.out.2.1,HS5.out.2.2⟩;rw[HJ0.out];simpa[Lib.byteCells]using HS5.out.1
    case round=>
     obtain⟨j,hj,rfl,hown,hbel,hT⟩:=hrel;clear hcell;by_cases hjl:j<l.length
     ·obtain⟨b,off,rfl,hz,hbl,hc⟩:=HIN.out.at_ hjl;have hc':wr.cell? ⟨b,off+j,none⟩=some (.int .i64 l[j]):=brd hbel hc hbl;have HX:=hid (l5 l[j] (List.getElem_mem hjl));have HW:=hid (And.intro hown (And.intro hbel hT));have HNX:=hid (HJS.out j hjl);(have hbl2:b<wr.heap.size:=by have:=hbel.size;omega);clear hown hbel hT hc;generalize l[j]=x at*;(go_wp2_with fail);refine(Tryz.strconv_AppendInt_10 w.heap.size _ x HX.out.1 HX.out.2 _ _ _ HW.out.1 HW.out.2.1.size (by have:=HLK.out j;omega) (zEG.out.on HW.out.2.1)).mono ?_;rintro e w6 ⟨v6,rfl,hown6,hb6,hk6⟩;have hT6:=(HW.out.2.2.othersKept hk6 (by simp) (by decide)).alloc (.cells #[.int .u8 44] 5);have hB6:=(HW.out.2.1.trans hb6).alloc (HW.out.2.1.trans hb6).size (.cells #[.int .u8 44] 5);have hO6:=hown6.alloc (.cells #[.int .u8 44] 5);have H6:=hid (And.intro hO6 (And.intro hB6 hT6))
      obtain⟨A6,n6,cap6,rfl⟩:∃A6 n6 cap6,v6= .slice A6 n6 cap6:=by
       rcases hown6.2 with⟨hv,_⟩|⟨g,cap,cur,hv,_⟩
       ·exact⟨_,_,_,hv⟩
       ·exact⟨_,_,_,hv⟩
      clear hT6 hB6 hO6 hb6 hk6 hown6 hc' hbl2;have hle:=Lib.itoa_length_le x HX.out.1 HX.out.2;have hle2:=HLK.out j;go_wp2_with(at_builtin;refine zf rfl (.tmp 41) (.tmp 42) _ rfl Tryz.underlying67 Tryz.eU8 rfl H6.out.1 rfl (news:=[.int .u8 44]) rfl (one_cell (by simp)) (by simp[Value.oneCell']) (by unfold maxLen;omega) (by omega) (by have:=H6.out.2.1.size;simpa using this) ?_;intro v7 w7 hown7 hg7 hat7);go_roundw
      case rel=>
       refine⟨j+1,by omega,by go_num,?_,zx H6.out.2.1 H6.out.1 hg7 H6.out.2.1.size (Nat.le_refl _),H6.out.2.2.grown hg7 (zKW H6.out.2.2 H6.out.1 (by decide))⟩;rw[HNX.out];simpa[Lib.byteCells,Nat.add_assoc]using hown7
      case measure=>simp[intOf];omega
     ·(obtain rfl:j=l.length:=by omega);rw[HJA.out]at hown;have HW:=hid (And.intro hown (And.intro hbel hT));clear hown hbel hT;go_wp2;go_roundw;(case rel=>exact⟨k+1,by omega,by go_num,HW.out.1,HW.out.2.1,HW.out.2.2⟩);case measure=>simp[intOf];omega
   ·(obtain rfl:k=2:=by omega);rw[HPA.out]at hown;have hne:(zDk n).length ≠0:=by simp[zDk]
    obtain⟨g,cap,rfl⟩:∃g cap,u3= .slice (some ⟨g,0,none⟩) (zDk n).length cap:=by
     rcases hown.2 with⟨_,h⟩|⟨g,cap,cur,hv,_⟩
     ·exact absurd h hne
     ·exact⟨g,cap,hv⟩
    have hcc:=hid (hown.cells (g:=g) rfl);have HB:=hid hbel;clear hown hbel hT hne;go_wp2;rw[run_convert_bytes_back wr 67 9 5 ⟨g,0,none⟩ cap (zDk n) Tryz.underlying67 Tryz.underlying5 Tryz.underlying9 (λj hj=>hcc.out j _ (by simp[Lib.byteCells,hj]))];simp only[Result.andThen];rw[Oper.upon_value];go_wp2;go_ret;exact⟨rfl,HB.out⟩
end
theorem Tryz.zeroInt(w:World):(zeroValue 3).run Tryz.prog w= .ok (.int .i64 0) w:=by kernel_rfl
theorem Tryz.lookI{w:World}{b:Nat}{kv:List (ByteArray × Value)}(h:zu encS w b kv)(s:ByteArray)(c:Bool):
  (Instr.lookup 59 (.map (some b)) (.string s) c).run Tryz.prog w= .ok (if c then .tuple #[(zA5 kv s).getD (.int .i64 0),.bool (zA5 kv s).isSome]else(zA5 kv s).getD (.int .i64 0)) w:=
 h.look (zCY (P:=Tryz.prog) (k:=9) Tryz.underlying9) (t:=59) (e:=3) Tryz.underlying59 (Tryz.zeroInt w) s c
theorem Tryz.nilI(w:World)(r:Option Nat):(binOp .eql 59 (.map r) (.map none)).run Tryz.prog w= .ok (.bool r.isNone) w:=run_eql_map_nil w _ _ _ r Tryz.underlying59
theorem zFn{Z:zD}{w:World}{cs:List Value}{n:zB}(h:zd Z w cs n):∃vc vk,cs=[.bool n.leaf,.int .i64 n.fact,vc,vk]:=by
 obtain⟨vc,vk,e,_⟩:=h;exact⟨vc,vk,e⟩
theorem zQJ{w w':World}{o:Obj}{M:Nat}{all:List zB}{F Z:Nat->Prop}(h:(∃F',MkS w' M all F' Z∧∀x,F' x->F x∨(w.alloc o).heap.size ≤x)∧zA (λx=>¬F x) (w.alloc o) w'):
  (∃F',MkS w' M all F' Z∧∀x,F' x->F x∨w.heap.size≤x)∧zA (λx=>¬F x) w w':=by
 obtain⟨⟨F',h1,h2⟩,h3⟩:=h;exact⟨⟨F',h1,λx hx=>(h2 x hx).imp id (λh=>by simp at h;omega)⟩,((zA.refl _ _).alloc o).trans h3⟩
theorem zN7{w W w':World}{M:Nat}{F Z:Nat->Prop}{r:Int × List zB}{e:Ending}(hb:Below w.heap.size w W)(h:zCC W M F Z r e w'):zCC w M F Z r e w':=by
 obtain⟨he,⟨F',h1,h2⟩,h3⟩:=h;exact⟨he,⟨F',h1,λx hx=>(h2 x hx).imp id (λh=>Nat.le_trans hb.size h)⟩,(zA.of_below hb).trans h3⟩
theorem zEy{Z:zD}{w:World}{cs:List Value}{n:zB}(h:zd Z w cs n):∀u∈cs,u.oneCell'=true:=by
 obtain⟨vc,vk,rfl,_,⟨⟨_,_,rfl,_⟩,_⟩,⟨⟨_,_,rfl,_⟩,_⟩⟩:=h;intro u hu;simp only[List.mem_cons,List.not_mem_nil,or_false]at hu;rcases hu with rfl|rfl|rfl|rfl<;>rfl
theorem zOx(M:Nat)(all:List zB)(F Z Zn:Nat->Prop)(n:zB)(cs:List Value)(w:World)(h:MkS w M all F Z)(hn:zd Zn w cs n)(hin:n∈all):
  Calls Tryz.prog 73 #[.pointer (some ⟨M,0,none⟩),.string (zCh n),.agg cs.toArray] w λe w'=>e= .returned (.int .i64 (all.idxOf n:Nat))∧Below w.heap.size w w':=by
 obtain⟨vc,vk,rfl⟩:=zFn hn;clear hn;obtain⟨⟨v,mp,csl,h1,h2,h3,h4,h5⟩,hM,hs,hF,hZ⟩:=h;rcases h4 with⟨_,h⟩|⟨b,rfl,hm,hb,hne,-⟩
 ·subst h;simp at hin
 have hl:=λo=>Tryz.lookI (hm.of_block (w':=w.alloc o) (Below.heap_alloc _ _ _ hm.lt)) (zCh n) true
 have hg:=zHk all 0 n;rw[if_pos hin]at hg;simp only[hg,Option.getD_some,Option.isSome_some,if_true,Nat.zero_add]at hl;have c0:=h1.cell 0;have c1:=h1.at1;have hMl:=h1.lt;clear hg h1 h2 h3 h5 hM hs hF hZ hm hb hne;generalize zCh n=s at*;have hnil:=Tryz.nilI;go_enter Tryz.func73,Tryz.ntmps73
 go_wp2;go_ret;exact⟨rfl,zE w _⟩
theorem zRZ(M:Nat)(all:List zB)(F Z Zn:Nat->Prop)(n:zB)(cs:List Value)(w:World)(h:MkS w M all F Z)(hn:zd Zn w cs n)(hz:∀b,Zn b->¬F b∧b<w.heap.size)(hin:n∉all)(hlen:all.length≤1000000)(hne:all≠[]):
  Calls Tryz.prog 73 #[.pointer (some ⟨M,0,none⟩),.string (zCh n),.agg cs.toArray] w (zCC w M F (λb=>Z b∨Zn b) ((all.length:Nat),all++[n])):=by
 have hn':=hn;obtain⟨vc,vk,rfl⟩:=zFn hn;obtain⟨⟨v,mp,csl,h1,h2,h3,h4,h5⟩,hM,hs,hF,hZ⟩:=h;rcases h4 with⟨_,h⟩|⟨b,rfl,hm,hb,hbne,-⟩
 ·exact absurd h hne
 obtain⟨A,cap,rfl,hcap,hmax,-⟩:=Row.of_own h2 (by decide);have hl:=λo=>Tryz.lookI (hm.of_block (w':=w.alloc o) (Below.heap_alloc _ _ _ hm.lt)) (zCh n) true
 have hg:=zHk all 0 n;rw[if_neg hin]at hg;simp only[hg,Option.getD_none,Option.isSome_none,if_true]at hl;have hset:=zLO all 0 n hin;rw[Nat.zero_add]at hset;have zFd:=hid hset;have c0:=h1.at0;have c1:=h1.at1;have hMl:=h1.lt;have hnil:=Tryz.nilI;have H:=hid (And.intro h1 (And.intro h2 (And.intro h3 (And.intro h5 (And.intro hM (And.intro hs (And.intro hF hZ)))))));have zUt:=hid (λo=>hm.of_block (w':=w.alloc o) (Below.heap_alloc _ _ _ hm.lt));have HB:=hid (And.intro hb hbne);have zGX:=hid (zEy hn');have HMB:=hid (zHl h2 hm);have HN:=hid hn';have HZN:=hid hz;clear hg h1 h2 h3 h5 hM hs hF hZ hm hb hbne hset hn' hn hz hin hne;generalize zCh n=s at*;have hle:∀i:Nat,i<4->(w.alloc (.cells #[.bool n.leaf,.int .i64 n.fact,vc,vk] 51)).frozen? ⟨M,i,none⟩=false:=λi _=>((H.out.1).alloc _).frozen i
 go_enter Tryz.func73,Tryz.ntmps73
 go_wp2_with(at_mapUpdate;refine zBm rfl (.tmp 37) (.tmp 38) _ rfl (zCY (P:=Tryz.prog) (k:=9) Tryz.underlying9) (e:=3) Tryz.underlying59 rfl (zUt.out _) s rfl ?_;intro w1 hm1 hk1 hsz1 hce1 hfr1);have hMb:=(H.out.1.alloc _).keep hk1 HB.out.2.symm;have hbl:b<w.heap.size:=H.out.2.2.2.2.2.2.1 b HB.out.1;have hbx:=(Blk.new w 51 #[.bool n.leaf,.int .i64 n.fact,vc,vk]).keep hk1 (by show w.heap.size≠b;omega);have hown1:=zl (H.out.2.1.alloc _) hk1 (λk hk e=>HMB.out (e▸hk));have f0:=hMb.frozen 0;obtain⟨b0,b1,b2,b3⟩:w1.cell? ⟨w.heap.size,0,none⟩=some (.bool n.leaf)∧w1.cell? ⟨w.heap.size,1,none⟩=some (.int .i64 n.fact)∧w1.cell? ⟨w.heap.size,2,none⟩=some vc∧w1.cell? ⟨w.heap.size,3,none⟩=some vk:=⟨hbx.cell 0,hbx.cell 1,hbx.cell 2,hbx.cell 3⟩;have m0:=hMb.at0;have hMl1:M<w1.heap.size:=hMb.lt;have HOW:=hid (show w1.drew.ownsRow 0 51 4 (.slice A all.length cap) all.length csl.flatten from hown1);have MKX:=hid (λ(w5:World)(row:Option Nat)(hg:(w1.alloc (.cells #[.bool n.leaf,.int .i64 n.fact,vc,vk] 51)).drew.grownBy w5 (Value.slice A all.length cap).ownBlock)=>(hMb.alloc (.cells #[.bool n.leaf,.int .i64 n.fact,vc,vk] 51)).drew.grown hg (λe=>(H.out.2.2.2.1 M e).2 rfl))
 have HG:=hid (λ(w5:World)(v5:Value)(ho:w5.ownsRow 0 51 4 v5 (all.length+1) (csl.flatten++[.bool n.leaf,.int .i64 n.fact,vc,vk]))(hg:(w1.alloc (.cells #[.bool n.leaf,.int .i64 n.fact,vc,vk] 51)).drew.grownBy w5 (Value.slice A all.length cap).ownBlock)(ha:v5.ownBlock=(Value.slice A all.length cap).ownBlock ∨v5.ownBlock=some (w1.alloc (.cells #[.bool n.leaf,.int .i64 n.fact,vc,vk] 51)).drew.heap.size)=>
  zQJ (zO3 (H.out.1.alloc (.cells #[.bool n.leaf,.int .i64 n.fact,vc,vk] 51)) (H.out.2.1.alloc _) (NdL.keep ((zA.refl _ _).alloc _) H.out.2.2.1) H.out.2.2.2.1 H.out.2.2.2.2.1 HB.out.1 HB.out.2 HMB.out H.out.2.2.2.2.2.1 (λx hx=>by have:=H.out.2.2.2.2.2.2.1 x hx;simp;omega) (λx hx=>by have:=H.out.2.2.2.2.2.2.2 x hx;simp;omega) (HN.out.keep ((zA.refl _ _).alloc _)) (λx hx=>⟨(HZN.out x hx).1,by have:=(HZN.out x hx).2;simp;omega⟩) hk1 (zFd.out▸hm1) hg ho ha))
 have HM1:=hid (And.intro hMb (And.intro hbx (And.intro hm1 (And.intro hk1 hsz1))));clear hMb hbx hm1 hk1 hce1 hfr1 hown1 c0 c1 hle hl hnil hMl hsz1;go_region_law(refine zDd rfl (.tmp 44) (.tmp 46) _ rfl Tryz.underlying28 Tryz.eNode rfl (HOW.out.alloc _) rfl (news:=[.bool n.leaf,.int .i64 n.fact,vc,vk]) rfl (zLt (cs:=[.bool n.leaf,.int .i64 n.fact,vc,vk]) (t:=51) (g:=w1.heap.size) (by have:=Blk.new w1 51 #[.bool n.leaf,.int .i64 n.fact,vc,vk];exact this.drew)) zGX.out (by unfold maxLen;omega) (by omega) (Nat.zero_le _) ?_;intro v5 w5 hown5 hg5 hat5;obtain⟨g5,cap5,hv5⟩:=zAZ hown5;subst hv5;have hM5:=MKX.out _ none hg5;have d0:=hM5.cell 0;have d1:=hM5.frozen 0;have d2:=hM5.lt)
 all_goals
  have HE:=HG.out _ _ hown5 hg5 hat5;clear d0 d1 d2;go_wp2;go_ret;exact⟨rfl,HE⟩
theorem zQK{w w':World}{o:Obj}{M:Nat}{all:List zB}{F Z:Nat->Prop}{u:Value}(hM:F M)(_hMl:M<w.heap.size)
  (h:(∃F',MkS w' M all F' Z∧∀x,F' x->(F x∨x=w.heap.size+1)∨(((w.setCell ⟨M,1,none⟩ u).alloc o).alloc (.map #[] 0)).heap.size ≤x)∧zA (λx=>¬(F x∨x=w.heap.size+1)) (((w.setCell ⟨M,1,none⟩ u).alloc o).alloc (.map #[] 0)) w'):
  (∃F',MkS w' M all F' Z∧∀x,F' x->F x∨w.heap.size≤x)∧zA (λx=>¬F x) w w':=by
 obtain⟨⟨F',h1,h2⟩,h3⟩:=h;refine⟨⟨F',h1,λx hx=> ?_⟩,zA.wide ?_⟩
 ·rcases h2 x hx with(h|h)|h
  ·exact Or.inl h
  ·exact Or.inr (by omega)
  ·simp at h;exact Or.inr (by omega)
 ·refine zA.trans (w':=(((w.setCell ⟨M,1,none⟩ u).alloc o).alloc (.map #[] 0))) ?_ (h3.mono λx _ hx=> ?_)
  ·exact(((zA.refl _ _).setCell (λ_ hx=>hx.1 hM) _).alloc _).alloc _
  ·rintro(h|h)
   ·exact hx.1 h
   ·omega
theorem zR0(M:Nat)(F Z Zn:Nat->Prop)(n:zB)(cs:List Value)(w:World)(h:MkS w M [] F Z)(hn:zd Zn w cs n)(hz:∀b,Zn b->¬F b∧b<w.heap.size):
  Calls Tryz.prog 73 #[.pointer (some ⟨M,0,none⟩),.string (zCh n),.agg cs.toArray] w (zCC w M F (λb=>Z b∨Zn b) ((([]:List zB).length :Nat),[]++[n])):=by
 have hn':=hn;obtain⟨vc,vk,rfl⟩:=zFn hn;obtain⟨⟨v,mp,csl,h1,h2,h3,h4,h5⟩,hM,hs,hF,hZ⟩:=h
 obtain rfl:mp= .map none:=by
  rcases h4 with⟨h,_⟩|⟨_,_,_,_,_,h⟩
  ·exact h
  ·exact absurd rfl h
 clear h4;obtain⟨A,cap,rfl,hcap,hmax,-⟩:=Row.of_own h2 (by decide)
 have hc0:csl=[]:=by
  cases csl with
  |nil=>rfl
  |cons=>exact h3.elim
 subst hc0;have c0:=h1.at0;have c1:=h1.at1;have f1:=h1.frozen 1;have hMl:=h1.lt;have hnil:=Tryz.nilI;have hmm:= @run_makeMap Tryz.prog;have hgr:zAt (zDU [] 0) (zCh n) (.int .i64 0)=zDU ([]++[n]) 0:=rfl;have zFd:=hid hgr;have zGX:=hid (zEy hn');let W0:=(((w.setCell ⟨M,1,none⟩ (.map (some (w.heap.size+1)))).alloc (.cells #[.bool n.leaf,.int .i64 n.fact,vc,vk] 51)).alloc (.map #[] 0))
 have hW0m:zu encS W0 (w.heap.size+1) []:=by
  have:=zu.made ((w.setCell ⟨M,1,none⟩ (.map (some (w.heap.size+1)))).alloc (.cells #[.bool n.leaf,.int .i64 n.fact,vc,vk] 51)) encS;simp only[World.size_alloc,World.size_setCell]at this;exact this
 have hl:=Tryz.lookI hW0m (zCh n) true;simp only[zA5,Option.getD_none,Option.isSome_none,if_true]at hl
 have hW0M:Blk W0 M 63 #[.slice A 0 cap,.map (some (w.heap.size+1))]:=by
  have:=(((h1.set_ 1 (.map (some (w.heap.size+1)))).alloc (.cells #[.bool n.leaf,.int .i64 n.fact,vc,vk] 51)).alloc (.map #[] 0));exact this
 have hkW:zA (λx=>x≠M) w W0:=(((zA.refl _ _).setCell (λ_ hx=>hx rfl) _).alloc _).alloc _;have hW0s:W0.heap.size=w.heap.size+2:=by simp[W0]
 have hW0b:Blk W0 w.heap.size 51 #[.bool n.leaf,.int .i64 n.fact,vc,vk]:=by
  have:=((Blk.new (w.setCell ⟨M,1,none⟩ (.map (some (w.heap.size+1)))) 51 #[.bool n.leaf,.int .i64 n.fact,vc,vk]).alloc (.map #[] 0));simp only[World.size_setCell]at this;exact this
 have hW0o:W0.ownsRow 0 51 4 (.slice A 0 cap) 0 ([]:List (List Value)).flatten :=zl h2 hkW (λk hk=>(h5 k hk).2);have hnb:(Value.slice A 0 cap).ownBlock ≠some (w.heap.size+1):=λe=>by have:=(h2.lt _ e).2;omega
 have H:=hid (And.intro h1 (And.intro h2 (And.intro h5 (And.intro hM (And.intro hs (And.intro hF hZ))))));have HW:=hid (And.intro hW0M (And.intro hkW (And.intro hW0s (And.intro hW0b (And.intro hW0o (And.intro hnb hW0m))))));have HN:=hid hn';have HZN:=hid hz;have zUt:=hid (λ(h:zu encS W0 (w.heap.size+1) [])=>h);have w0c:=hW0M.at0;have w1c:=hW0M.at1;simp only[W0]at hl w0c w1c;clear h1 h2 h3 h5 hM hs hF hZ hn' hn hz hgr hW0M hkW hW0b hW0o hW0m hnb hW0s;generalize zCh n=s at*;go_enter Tryz.func73,Tryz.ntmps73
 go_wp2_with(at_mapUpdate;refine zBm rfl (.tmp 37) (.tmp 38) _ rfl (zCY (P:=Tryz.prog) (k:=9) Tryz.underlying9) (e:=3) Tryz.underlying59 rfl (HW.out.2.2.2.2.2.2) s rfl ?_;intro w1 hm1 hk1 hsz1 hce1 hfr1);have hMb:=HW.out.1.keep hk1 (by show M≠w.heap.size+1;omega);have hbx:=HW.out.2.2.2.1.keep hk1 (by show w.heap.size≠w.heap.size+1;omega);have hown1:=zl HW.out.2.2.2.2.1 hk1 (λk hk e=>HW.out.2.2.2.2.2.1 (e▸hk));have f0:=hMb.frozen 0;obtain⟨b0,b1,b2,b3⟩:w1.cell? ⟨w.heap.size,0,none⟩=some (.bool n.leaf)∧w1.cell? ⟨w.heap.size,1,none⟩=some (.int .i64 n.fact)∧w1.cell? ⟨w.heap.size,2,none⟩=some vc∧w1.cell? ⟨w.heap.size,3,none⟩=some vk:=⟨hbx.cell 0,hbx.cell 1,hbx.cell 2,hbx.cell 3⟩;have m0:=hMb.at0;have hMl1:M<w1.heap.size:=hMb.lt;have HOW:=hid (show w1.drew.ownsRow 0 51 4 (.slice A 0 cap) 0 ([]:List (List Value)).flatten from hown1);have MKX:=hid (λ(w5:World)(row:Option Nat)(hg:(w1.alloc (.cells #[.bool n.leaf,.int .i64 n.fact,vc,vk] 51)).drew.grownBy w5 (Value.slice A 0 cap).ownBlock)=>(hMb.alloc (.cells #[.bool n.leaf,.int .i64 n.fact,vc,vk] 51)).drew.grown hg (λe=>(H.out.2.2.1 M e).2 rfl))
 have HG:=hid (λ(w5:World)(v5:Value)(ho:w5.ownsRow 0 51 4 v5 (0+1) (([]:List (List Value)).flatten ++[.bool n.leaf,.int .i64 n.fact,vc,vk]))(hg:(w1.alloc (.cells #[.bool n.leaf,.int .i64 n.fact,vc,vk] 51)).drew.grownBy w5 (Value.slice A 0 cap).ownBlock)(ha:v5.ownBlock=(Value.slice A 0 cap).ownBlock ∨v5.ownBlock=some (w1.alloc (.cells #[.bool n.leaf,.int .i64 n.fact,vc,vk] 51)).drew.heap.size)=>
  zQK H.out.2.2.2.1 H.out.1.lt (zO3 (all:=[]) (csl:=[]) (Fa:=λx=>F x∨x=w.heap.size+1) HW.out.1 HW.out.2.2.2.2.1 trivial (λk hk=>⟨Or.inl (H.out.2.2.1 k hk).1,(H.out.2.2.1 k hk).2⟩) (Or.inl H.out.2.2.2.1) (Or.inr rfl) (by have:=H.out.1.lt;omega) HW.out.2.2.2.2.2.1
   (λx hx h=>by
    rcases h with h|h
    ·exact H.out.2.2.2.2.1 x hx h
    ·have:=H.out.2.2.2.2.2.2 x hx;omega)
   (λx hx=>by
    rw[HW.out.2.2.1];rcases hx with h|h
    ·have:=H.out.2.2.2.2.2.1 x h;omega
    ·omega)
   (λx hx=>by rw[HW.out.2.2.1];have:=H.out.2.2.2.2.2.2 x hx;omega)
   (HN.out.keep (HW.out.2.1.mono λx _ hx e=>(HZN.out x hx).1 (e▸H.out.2.2.2.1)))
   (λx hx=>⟨λh=>by
    rcases h with h|h
    ·exact(HZN.out x hx).1 h
    ·have:=(HZN.out x hx).2;omega,by rw[HW.out.2.2.1];have:=(HZN.out x hx).2;omega⟩) hk1 (zFd.out▸hm1) hg ho ha))
 clear hMb hbx hm1 hk1 hce1 hfr1 hown1 c0 c1 hl hnil hMl hsz1 w0c w1c f1 hmm;go_region_law(refine zDd rfl (.tmp 44) (.tmp 46) _ rfl Tryz.underlying28 Tryz.eNode rfl (HOW.out.alloc _) rfl (news:=[.bool n.leaf,.int .i64 n.fact,vc,vk]) rfl (zLt (cs:=[.bool n.leaf,.int .i64 n.fact,vc,vk]) (t:=51) (g:=w1.heap.size) (by have:=Blk.new w1 51 #[.bool n.leaf,.int .i64 n.fact,vc,vk];exact this.drew)) zGX.out (by unfold maxLen;omega) (by omega) (Nat.zero_le _) ?_;intro v5 w5 hown5 hg5 hat5;obtain⟨g5,cap5,hv5⟩:=zAZ hown5;subst hv5;have hM5:=MKX.out _ none hg5;have d0:=hM5.cell 0;have d1:=hM5.frozen 0;have d2:=hM5.lt)
 all_goals
  have HE:=HG.out _ _ hown5 hg5 hat5;clear d0 d1 d2;go_wp2;go_ret;exact⟨rfl,HE⟩
theorem zR1(M:Nat)(all:List zB)(F Z Zn:Nat->Prop)(n:zB)(cs:List Value)(w:World)(h:MkS w M all F Z)(hn:zd Zn w cs n)(hz:∀b,Zn b->¬F b∧b<w.heap.size)(hlen:all.length≤1000000):
  Calls Tryz.prog 73 #[.pointer (some ⟨M,0,none⟩),.string (zCh n),.agg cs.toArray] w (zCC w M F (λb=>Z b∨Zn b) (zW all n)):=by
 by_cases hin:n∈all
 ·refine(zOx M all F Z Zn n cs w h hn hin).mono ?_;rintro e w' ⟨rfl,hb⟩;unfold zW;rw[if_pos hin];refine⟨rfl,⟨F,?_,λb hb=>Or.inl hb⟩,.of_below hb⟩;have h':=h.below hb;obtain⟨v,mp,csl,h1,h2,h3,h4,h5⟩:=h'.ex;refine⟨⟨v,mp,csl,h1,h2,NdL.mono (λb hb=>Or.inl hb) h3,h4,h5⟩,h'.fM,λb hb=> ?_,h'.liveF,λb hb=> ?_⟩
  ·rcases hb with hb|hb
   ·exact h'.sep b hb
   ·exact(hz b hb).1
  ·rcases hb with hb'|hb'
   ·exact h'.liveZ b hb'
   ·exact Nat.lt_of_lt_of_le (hz b hb').2 hb.size
 ·have e:zW all n=(((all.length:Nat):Int),all++[n]):=by unfold zW;rw[if_neg hin]
  rw[e];by_cases hne:all=[]
  ·subst hne;exact zR0 M F Z Zn n cs w h hn hz
  ·exact zRZ M all F Z Zn n cs w h hn hz hin hlen hne
structure zR2 (w:World) (F Zn:Nat->Prop) (n:zB) (cs:List Value):Prop where
 is:zd Zn w cs n
 off:∀b,Zn b->¬F b∧b<w.heap.size
 cuts:n.cuts.length≤2000000
 kids:n.kids.length≤2000000
theorem zGH(M:Nat)(all:List zB)(F Z Zn:Nat->Prop)(n:zB)(cs:List Value)(w:World)(h:MkS w M all F Z)(hn:zR2 w F Zn n cs)(hlen:all.length≤1000000)(htab:zBJ w.heap.size w):
  Calls Tryz.prog 30 #[.pointer (some ⟨M,0,none⟩),.agg cs.toArray] w (zCC w M F (λb=>Z b∨Zn b) (zW all n)):=by
 obtain⟨hn,hz,hc,hk⟩:=hn;have hn':=hn;obtain⟨vc,vk,rfl⟩:=zFn hn;have hMl:=h.liveF M h.fM;have HW:=hid (λW(hb:Below w.heap.size w W)=>zRY Zn n _ W (hn'.keep (.of_below hb)) ((htab.on hb).mono hb.size) hc hk);have HI:=hid (λW(hb:Below w.heap.size w W)=>zR1 M all F Z Zn n _ W (h.below hb) (hn'.keep (.of_below hb)) (λb hb'=>⟨(hz b hb').1,Nat.lt_of_lt_of_le (hz b hb').2 hb.size⟩) hlen);have HP:=hid (λ(W W':World)(e:Ending)(hb:Below w.heap.size w W)(hp:zCC W M F (λb=>Z b∨Zn b) (zW all n) e W')=>zN7 hb hp);have HLF:=hid (show ¬F w.heap.size from λhx=>by have:=h.liveF _ hx;omega);clear h hn hn' hz;go_enter Tryz.func30,Tryz.ntmps30
 go_wp2
 go_region_held3(λw'=>w'.cell? ⟨w.heap.size,0,none⟩=some (.bool n.leaf)∧w'.cell? ⟨w.heap.size,1,none⟩=some (.int .i64 n.fact)∧w'.cell? ⟨w.heap.size,2,none⟩=some vc∧w'.cell? ⟨w.heap.size,3,none⟩=some vk) (first|exact⟨p0,p1,p2,p3⟩|exact⟨q0,q1,q2,q3⟩|(refine⟨?_,?_,?_,?_⟩<;>go_keep))
  (first
   |(go_at_call 74;refine(HW.out _ (zE w _).drew).mono ?_;rintro e w1 ⟨rfl,hb1⟩;have hbx:=(Blk.new w 51 #[.bool n.leaf,.int .i64 n.fact,vc,vk]).drew.below hb1 (by simp);have q0:w1.cell? ⟨w.heap.size,0,none⟩=some (.bool n.leaf):=hbx.cell 0;have q1:w1.cell? ⟨w.heap.size,1,none⟩=some (.int .i64 n.fact):=hbx.cell 1;have q2:w1.cell? ⟨w.heap.size,2,none⟩=some vc:=hbx.cell 2;have q3:w1.cell? ⟨w.heap.size,3,none⟩=some vk:=hbx.cell 3;have hbw:=zy (zE w _).drew hb1 (by simp))
   |(go_at_call 73;refine(HI.out _ hbw).mono ?_;rintro e w2 ⟨rfl,hp2⟩;have hby:=hbx.keep hp2.2 HLF.out;have p0:w2.cell? ⟨w.heap.size,0,none⟩=some (.bool n.leaf):=hby.cell 0;have p1:w2.cell? ⟨w.heap.size,1,none⟩=some (.int .i64 n.fact):=hby.cell 1;have p2:w2.cell? ⟨w.heap.size,2,none⟩=some vc:=hby.cell 2;have p3:w2.cell? ⟨w.heap.size,3,none⟩=some vk:=hby.cell 3))
 all_goals
  have HE:=HP.out _ _ _ hbw ⟨rfl,hp2⟩;have HEH:=hid HE;clear HE;go_wp2;go_ret;exact HEH.out
section
open Go.Shelf
theorem zL5(b:Nat)(w:World)(h0:w.cell? ⟨b,0,none⟩=some (.pointer (some ⟨b,0,none⟩))):
  Calls Tryz.prog 106 #[.pointer (some ⟨b,0,none⟩)] w λe w'=>e= .returned (.tuple #[])∧w'=w:=by
 obtain⟨j,hj,_⟩:=Option.map_eq_some_iff.1 Tryz.Builder_Extra_169.sizeBuilder;go_enter Tryz.func106,Tryz.ntmps106
 go_wp2;rw[Lib.run_neq_ptr_same w _ Tryz.underlying66 hj];go_wp2;go_end0;exact⟨rfl,rfl⟩
theorem zKX(b:Nat)(w:World)(h0:w.cell? ⟨b,0,none⟩=some (.pointer none))(hsh:w.shape? b=some (69,2))(hfz:w.frozen? ⟨b,0,none⟩=false):
  Calls Tryz.prog 106 #[.pointer (some ⟨b,0,none⟩)] w λe w'=>e= .returned (.tuple #[])∧w'=w.setCell ⟨b,0,none⟩ (.pointer (some ⟨b,0,none⟩)):=by
 obtain⟨j,hj,hjs⟩:=Option.map_eq_some_iff.1 Tryz.Builder_Extra_169.sizeBuilder;go_enter Tryz.func106,Tryz.ntmps106
 go_wp2;rw[Lib.run_to_unsafe w ⟨b,0,none⟩ Tryz.underlying66 Tryz.underlying162 hj (by rw[hjs];decide) hsh (Nat.zero_lt_succ 1)];simp only[Result.andThen];rw[Oper.upon_value];go_wp2;rw[run_callFunc_extern Tryz.func127 (by kernel_rfl) (by kernel_rfl) (by kernel_rfl) (e:=Extern.AbiNoEscape.same) (by kernel_rfl)];rw[Lib.run_noEscape];simp only[Result.andThen];rw[Oper.upon_value];go_wp2;rw[Lib.run_from_unsafe w ⟨b,0,none⟩ Tryz.underlying162 Tryz.underlying66 hj hsh Tryz.Builder_Extra_169.liesBuilder];simp only[Result.andThen];rw[Oper.upon_value];go_wp2;go_end0;exact⟨rfl,rfl⟩
theorem zHp(B b:Nat)(bs:List Value)(w:World)(h:Lib.IsBuilderF 69 5 B b bs w):
  Calls Tryz.prog 106 #[.pointer (some ⟨b,0,none⟩)] w λe w'=>e= .returned (.tuple #[])∧(Lib.BuilderAtF 69 5 B b (.pointer (some ⟨b,0,none⟩)) bs w'∧Below B w w'∧Lib.OthersKept 5 (some b) w w'):=by
 rcases h with h|h
 ·refine(zKX b w h.cell0 h.shape h.frozen0).mono ?_;rintro e w' ⟨rfl,rfl⟩;exact⟨rfl,h.used _,(Below.refl B w).setCell (p:=⟨b,0,none⟩) h.1 _,(Lib.OthersKept.refl _ _ w).setCell ⟨b,0,none⟩ rfl _⟩
 ·refine(zL5 b w h.cell0).mono ?_;rintro e w' ⟨rfl,rfl⟩;exact⟨rfl,h,Below.refl B _,Lib.OthersKept.refl _ _ _⟩
theorem zKY(B b:Nat)(bs:List Value)(s:ByteArray)(w:World)(h:Lib.IsBuilderF 69 5 B b bs w)(hlen:bs.length+s.size≤140737488355328)(hBw:B≤w.heap.size):
  Calls Tryz.prog 75 #[.pointer (some ⟨b,0,none⟩),.string s] w λe w'=>e= .returned (.tuple #[.int .i64 s.size,.nilIface])∧(Lib.BuilderAtF 69 5 B b (.pointer (some ⟨b,0,none⟩)) (bs++Lib.strCells s) w'∧Below B w w'∧Lib.OthersKept 5 (some b) w w'):=by
 have neB5:((69:TypeId)≠5):=by decide
 obtain⟨i0,hi,hz0,hz1,hz2⟩:=info_parts Tryz.Builder_Extra_169.infoByte;go_enter Tryz.func75,Tryz.ntmps75
 go_wp2_with fail
 refine(zHp B b bs _ h).mono ?_;rintro e w1 ⟨rfl,h1,hb1,hk1⟩;obtain⟨hB,v,hbk,hown,hne⟩:=h1;have c0:w1.cell? ⟨b,0,none⟩=some (.pointer (some ⟨b,0,none⟩)):=by rw[Lib.cell_of_heap hbk];rfl
 have c1:w1.cell? ⟨b,1,none⟩=some v:=by rw[Lib.cell_of_heap hbk];rfl
 go_wp2_with(at_builtin;refine Lib.wpList_append_own_stringF _ rfl _ _ 67 9 rfl B 5 i0 Tryz.underlying67 Tryz.underlying9 hi hz0 hz1 hz2 _ _ _ rfl hown s rfl ?c3 ?c4 ?c5 ?_);case c3=>unfold maxLen;omega
 case c4=>omega
 case c5=>have:=hb1.size;omega
 intro v' w2 hown' hgrow _
 have hlt:b<w1.heap.size:=by
  rcases Nat.lt_or_ge b w1.heap.size with h'|h'
  ·exact h'
  ·simp[Array.getElem?_eq_none h']at hbk
 have hb2:w2.heap[b]? =some (.cells #[.pointer (some ⟨b,0,none⟩),v] 69 (0,0)):=by
  rw[hgrow.block b hlt (λe=>hne e.symm)];exact hbk
 have d0:w2.cell? ⟨b,0,none⟩=some (.pointer (some ⟨b,0,none⟩)):=by rw[Lib.cell_of_heap hb2];rfl
 have d1:w2.cell? ⟨b,1,none⟩=some v:=by rw[Lib.cell_of_heap hb2];rfl
 have f1:w2.frozen? ⟨b,1,none⟩=false:=Lib.frozen_of_heap hb2 1
 obtain⟨ao,n',cap,rfl⟩:∃ao n' cap,v'= .slice ao n' cap:=by
  rcases hown'.2 with⟨hv,_⟩|⟨g,cap,cur,fz,hv,_⟩
  ·exact⟨_,_,_,hv⟩
  ·exact⟨_,_,_,hv⟩
 go_wp2;go_ret2;refine⟨rfl,?_,?_,(hk1.grown hgrow (Lib.ownsRowF_kind hown)).setCell ⟨b,1,none⟩ rfl _⟩
 ·exact Lib.BuilderAtF.put (T:=69) (e:=5) hB hb2 (bs':=bs++Lib.strCells s) (by simpa[Lib.strCells_length]using hown') neB5
 ·exact(hb1.grown hgrow (by have:=hb1.size;omega) (λk hk=>(hown.lt k hk).1)).setCell (p:=⟨b,1,none⟩) hB _
theorem zNL(B b:Nat)(bs:List Value)(c:Int)(w:World)(h:Lib.IsBuilderF 69 5 B b bs w)(hlen:bs.length+1≤140737488355328)(hBw:B≤w.heap.size):
  Calls Tryz.prog 76 #[.pointer (some ⟨b,0,none⟩),.int .u8 c] w λe w'=>e= .returned .nilIface ∧(Lib.BuilderAtF 69 5 B b (.pointer (some ⟨b,0,none⟩)) (bs++[.int .u8 c]) w'∧Below B w w'∧Lib.OthersKept 5 (some b) w w'):=by
 have neB5:((69:TypeId)≠5):=by decide
 obtain⟨i0,hi,hz0,hz1,hz2⟩:=info_parts Tryz.Builder_Extra_169.infoByte;go_enter Tryz.func76,Tryz.ntmps76
 go_wp2_with fail
 refine(zHp B b bs _ h).mono ?_;rintro e w1 ⟨rfl,h1,hb1,hk1⟩;obtain⟨hB,v,hbk,hown,hne⟩:=h1;have c0:w1.cell? ⟨b,0,none⟩=some (.pointer (some ⟨b,0,none⟩)):=by rw[Lib.cell_of_heap hbk];rfl
 have c1:w1.cell? ⟨b,1,none⟩=some v:=by rw[Lib.cell_of_heap hbk];rfl
 go_wp2_with(at_builtin;refine wpList_append_ownF _ rfl _ _ 67 rfl B 5 i0 (.int .u8 0) 1 1 Tryz.underlying67 hi hz0 hz1 hz2 rfl (by decide) _ _ _ rfl (hown.alloc _) ⟨w1.heap.size,0,none⟩ 1 1 [.int .u8 c] rfl rfl ?c1 ?c2 ?c3 ?c4 ?c5 ?_)
 case c1=>
  intro j u hj
  match j,hj with
  |0,hj=>simp at hj;subst hj;simp[Addr.add]
 case c2=>intro u hu;simp at hu;subst hu;rfl
 case c3=>unfold maxLen;omega
 case c4=>omega
 case c5=>have:=hb1.size;simp;omega
 intro v' w2 hown' hgrow _
 have hlt:b<w1.heap.size:=by
  rcases Nat.lt_or_ge b w1.heap.size with h'|h'
  ·exact h'
  ·simp[Array.getElem?_eq_none h']at hbk
 have hb2:w2.heap[b]? =some (.cells #[.pointer (some ⟨b,0,none⟩),v] 69 (0,0)):=by
  rw[hgrow.block b (by simp;omega) (λe=>hne e.symm),Lib.alloc_old w1 _ b hlt];exact hbk
 have d0:w2.cell? ⟨b,0,none⟩=some (.pointer (some ⟨b,0,none⟩)):=by rw[Lib.cell_of_heap hb2];rfl
 have d1:w2.cell? ⟨b,1,none⟩=some v:=by rw[Lib.cell_of_heap hb2];rfl
 have f1:w2.frozen? ⟨b,1,none⟩=false:=Lib.frozen_of_heap hb2 1
 obtain⟨g,cap,rfl⟩:∃g cap,v'= .slice (some ⟨g,0,none⟩) (bs.length+1) cap:=by
  rcases hown'.2 with⟨_,h0⟩|⟨g,cap,cur,fz,hv,_⟩
  ·omega
  ·exact⟨g,cap,hv⟩
 go_wp2;go_ret;refine⟨rfl,?_,?_,((hk1.alloc _).grown hgrow (Lib.ownsRowF_kind (hown.alloc _))).setCell ⟨b,1,none⟩ rfl _⟩
 ·exact Lib.BuilderAtF.put (T:=69) (e:=5) hB hb2 (bs':=bs++[.int .u8 c]) (by simpa using hown') neB5
 ·exact((hb1.alloc (by have:=hb1.size;omega) _).grown hgrow (by have:=hb1.size;simp;omega) (λk hk=>(hown.lt k hk).1)).setCell (p:=⟨b,1,none⟩) hB _
end
end Go.Proofs.YtonmdbdopchkaaaGreatDoor
