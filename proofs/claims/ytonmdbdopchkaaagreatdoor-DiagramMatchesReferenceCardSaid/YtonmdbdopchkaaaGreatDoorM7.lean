/- Texts W6 W7 W8. -/
import Derived.Test.YtonmdbdopchkaaaGreatDoorM2
import Derived.Test.YtonmdbdopchkaaaGreatDoorM3
import Derived.Test.YtonmdbdopchkaaaGreatDoorM0
import Derived.WalkSpells
import Derived.WalkLawsBesides
import Derived.Shelf.Abstract
import Derived.Laws.EntriesVeiled
set_option linter.all false
namespace Go.Proofs.YtonmdbdopchkaaaGreatDoor
open Go.RowKit
set_option maxHeartbeats 2000000
set_option maxRecDepth 100000
theorem zBD{s:ByteArray}{k:Nat}(hk:k<s.size):s.data.toList[k]? =some s[k]:=by
 have hl:k<s.data.toList.length:=by simpa using hk
 rw[List.getElem?_eq_getElem hl];simp;rfl
theorem zBk(B:Nat)(cur:Array Int)(hcur:cur.size=256)(s:ByteArray)(hs:s.size≤1000)(c:Int)(w:World)(hB:Blk w B 174 (zA4 cur)):
  Calls Tryz.prog 150 #[.string s,.int .i64 c,.pointer (some ⟨B,0,none⟩)] w λe w'=>e= .returned (.tuple #[])∧Blk w' B 174 (zA4 (zBc cur s.data.toList c))∧zA (λb=>b≠B) w w':=by
 go_enter Tryz.func150,Tryz.ntmps150
 go_wp2;go_loopw[5] (λi wr=>∃k:Nat,k≤s.size∧i= .int .i64 k∧Blk wr B 174 (zA4 (zBc cur (s.data.toList.take k) c))∧zA (λb=>b≠B) w wr) (λi _=>s.size-(intOf i).toNat);case atStart=>exact⟨0,Nat.zero_le _,rfl,hB,.refl _ _⟩
 case round=>
  obtain⟨k,hk,rfl,hblk,hkp⟩:=hrel;by_cases hlt:k<s.size
  ·have hb:=(s[k]).toNat_lt;have hsz:(zA4 (zBc cur (s.data.toList.take k) c)).size =256:=by rw[zDr,zBY,hcur]
   have hcell:∃v,wr.cell? ⟨B,s[k].toNat,none⟩=some v:=by
    rw[hblk.cell];exact⟨_,Array.getElem?_eq_getElem (by omega)⟩
   obtain⟨v0,hc0⟩:=hcell;have hf0:=hblk.frozen (s[k]).toNat;have HB:=hid hblk
   have ht:s.data.toList.take (k+1)=s.data.toList.take k++[s[k]]:=by
    rw[List.take_add_one,zBD hlt];rfl
   have HT:=hid ht;clear hblk ht hsz;(have h256:((s[k].toNat :Nat):Int)<256:=by omega);go_wp2;go_roundw
   case rel=>
    refine⟨k+1,by omega,by go_num,?_,.setCell hkp (λ_ h=>h rfl) _⟩;rw[HT.out,zNc,<-zRa];exact HB.out.set_ _ _
   case measure=>simp[intOf];omega
  ·(obtain rfl:k=s.size:=by omega);go_wp2;go_end0;refine⟨rfl,?_,hkp⟩;rwa[List.take_of_length_le (by simp)]at hblk
theorem Tryz.zc176:Tryz.zeroCells174=zA4 zCv:=by
 unfold zA4 zCv;rw[Array.map_replicate]
 kernel_rfl
theorem Tryz.sz176:(Tryz.prog.info? 174).map (·.size)=some 256:=by kernel_rfl
theorem zP5(w:World):
  Calls Tryz.prog 140 #[] w λe w'=>e= .returned (.agg (zA4 zEf))∧Below w.heap.size w w':=by
 have eg:∀args w,(callFunc 150 args).run Tryz.prog w= .ok (.enter 150 args) w:=enters_of Tryz.func150 (by kernel_rfl) rfl
 have hb0:Blk ((w.alloc (.cells Tryz.zeroCells174 174)).alloc (.cells Tryz.zeroCells174 174)) (w.heap.size+1) 174 (zA4 zCv):=by
  rw[Tryz.zc176];have:=Blk.new (w.alloc (.cells (zA4 zCv) 174)) 174 (zA4 zCv);simp only[World.size_alloc]at this;exact this
 have ha0:Blk ((w.alloc (.cells Tryz.zeroCells174 174)).alloc (.cells Tryz.zeroCells174 174)) w.heap.size 174 (zA4 zCv):=by
  rw[Tryz.zc176];exact(Blk.new w _ _).alloc _
 have HA:=hid ha0;clear ha0;have hbel:Below w.heap.size w ((w.alloc (.cells Tryz.zeroCells174 174)).alloc (.cells Tryz.zeroCells174 174)):= .alloc (.alloc (.refl _ _) (Nat.le_refl _) _) (by simp) _;go_enter Tryz.func140,Tryz.ntmps140
 go_wp2_with fail
 refine(zBk (w.heap.size+1) zCv (by simp only[zCv,Array.size_replicate]) _ (by decide) 3 _ hb0).mono ?_;rintro e w1 ⟨rfl,hb1,hk1⟩;have HB1:Hid (Blk w1 (w.heap.size+1) 174 (zA4 zF6)):=hb1;clear hb1;go_wp2_with fail
 refine(zBk (w.heap.size+1) zF6 (by simp only[zF6,zCv,zBY,Array.size_replicate]) _ (by decide) 4 _ HB1.out).mono ?_;rintro e w2 ⟨rfl,hb2,hk2⟩;have zh:Hid (Blk w2 (w.heap.size+1) 174 (zA4 zGJ)):=hb2;clear hb2;go_wp2_with fail
 refine(zBk (w.heap.size+1) zGJ (by simp only[zGJ,zF6,zCv,zBY,Array.size_replicate]) _ (by decide) 5 _ zh.out).mono ?_;rintro e w3 ⟨rfl,hb3,hk3⟩;have HB3:Hid (Blk w3 (w.heap.size+1) 174 (zA4 zHB)):=hb3;clear hb3;go_wp2_with fail
 refine(zBk (w.heap.size+1) zHB (by simp only[zHB,zGJ,zF6,zCv,zBY,Array.size_replicate]) _ (by decide) 1 _ HB3.out).mono ?_;rintro e w4 ⟨rfl,hb4,hk4⟩;have HB4:Hid (Blk w4 (w.heap.size+1) 174 (zA4 zH0)):=hb4;clear hb4;go_wp2_with fail
 refine(zBk (w.heap.size+1) zH0 (by simp only[zH0,zHB,zGJ,zF6,zCv,zBY,Array.size_replicate]) _ (by decide) 2 _ HB4.out).mono ?_;rintro e w5 ⟨rfl,hb5,hk5⟩;have HB5:Hid (Blk w5 (w.heap.size+1) 174 (zA4 zIP)):=hb5;clear hb5;go_wp2_with fail
 refine(zBk (w.heap.size+1) zIP (by simp only[zIP,zH0,zHB,zGJ,zF6,zCv,zBY,Array.size_replicate]) _ (by decide) 6 _ HB5.out).mono ?_;rintro e w6 ⟨rfl,hb6,hk6⟩;have HB6:Hid (Blk w6 (w.heap.size+1) 174 (zA4 zJu)):=hb6;clear hb6;go_wp2_with fail
 refine(zBk (w.heap.size+1) zJu (by simp only[zJu,zIP,zH0,zHB,zGJ,zF6,zCv,zBY,Array.size_replicate]) _ (by decide) 7 _ HB6.out).mono ?_;rintro e w7 ⟨rfl,hb7,hk7⟩;have HB7:Hid (Blk w7 (w.heap.size+1) 174 (zA4 zL7)):=hb7;clear hb7;go_wp2_with fail
 refine(zBk (w.heap.size+1) zL7 (by simp only[zL7,zJu,zIP,zH0,zHB,zGJ,zF6,zCv,zBY,Array.size_replicate]) _ (by decide) 8 _ HB7.out).mono ?_;rintro e w8 ⟨rfl,hb8,hk8⟩;have HB8:Hid (Blk w8 (w.heap.size+1) 174 (zA4 zNd)):=hb8;clear hb8;go_wp2_with fail
 refine(zBk (w.heap.size+1) zNd (by simp only[zNd,zL7,zJu,zIP,zH0,zHB,zGJ,zF6,zCv,zBY,Array.size_replicate]) _ (by decide) 9 _ HB8.out).mono ?_;rintro e w9 ⟨rfl,hb9,hk9⟩;have HB9:Hid (Blk w9 (w.heap.size+1) 174 (zA4 zEf)):=hb9;clear hb9;have hkk:=hk1.trans (hk2.trans (hk3.trans (hk4.trans (hk5.trans (hk6.trans (hk7.trans (hk8.trans hk9)))))));have HA9:=hid (HA.out.keep hkk (by simp));have hB9:Below w.heap.size w w9:=hbel.trans ⟨hkk.os,hkk.tape,hkk.output,hkk.size,λk hk=>hkk.block k (by simp;omega) (by omega)⟩;clear hk1 hk2 hk3 hk4 hk5 hk6 hk7 hk8 hk9 HB1 zh HB3 HB4 HB5 HB6 HB7 HB8 HA hkk hbel;have h9:(zA4 zEf).size =256:=by rw[zDr,zGb]
 have h0:(zA4 zCv).size =256:=by simp[zDr,zCv]
 have H9:=hid h9;clear h9
 go_wp2_with(first
  |(refine zKp rfl 174 _ rfl rfl HB9.out _ Tryz.underlying174 rfl (by rw[H9.out];exact Tryz.sz176) ?_)
  |(refine zg rfl 174 _ _ rfl rfl rfl HA9.out (by rw[H9.out,h0]) (by rw[H9.out];exact Tryz.sz176) (zMC _) ?_;intro w10 hb10 hk10 hs10))
 refine bodyPost_ret (v:= .agg (zA4 zEf)) (results_cell_row rfl _ _ w.heap.size 174 (zA4 zEf) (0,0) _ rfl hb10 Tryz.underlying174 rfl (by rw[H9.out];exact Tryz.sz176)) rfl ⟨rfl,?_⟩;exact hB9.trans ⟨hk10.os,hk10.tape,hk10.output,hk10.size,λk hk=>hk10.block k (by have:=hB9.size;omega) (by omega)⟩
def zAa(w:World)(S:Nat)(s:ByteArray):Prop:=w.cell? ⟨S,0,none⟩=some (.string s)∧∀b:UInt8,w.cell? ⟨S,1+b.toNat,none⟩=some (.int .i64 (zCE b))
theorem zAa.lt{w:World}{S:Nat}{s:ByteArray}(h:zAa w S s):S<w.heap.size:=lt_of_cell h.1
theorem zAa.below{B:Nat}{w w':World}{S:Nat}{s:ByteArray}(h:zAa w S s)(hb:Below B w w')(hS:S<B):zAa w' S s:=
 ⟨brd hb h.1 hS,λb=>(hb.cell (p:=⟨S,1+b.toNat,none⟩) hS).trans (h.2 b)⟩
theorem zHT(S:Nat)(s:ByteArray)(i:Int)(w:World)(h:zAa w S s)(hi:0≤i)(hi2:i≤140737488355328)(_hs:s.size≤140737488355328):
  Calls Tryz.prog 152 #[.pointer (some ⟨S,0,none⟩),.int .i64 i] w λe w'=>e= .returned (.int .i64 (zP s i.toNat))∧∃n,w'=w.drewN n:=by
 obtain⟨k,rfl⟩:∃k:Nat,i=k:=⟨i.toNat,by omega⟩;have h0:=h.1;by_cases hlt:k<s.size
 ·have hc:=h.2 s[k];have hb:=(s[k]).toNat_lt;have h256:((s[k].toNat :Nat):Int)<256:=by omega
  have hcl:=hid (zDL hlt);have hki:((k:Nat):Int)<(s.size:Int):=by omega
  clear h;generalize zCE s[k]=c at*;go_enter Tryz.func152,Tryz.ntmps152
  go_wp2;go_quiet(fail);go_wp2;go_ret;exact⟨zAD (by simp only[Int.toNat_natCast];rw[hcl.out]),_,rfl⟩
 ·have hcl:=hid (zFr (s:=s) (i:=k) (by omega));clear h;go_enter Tryz.func152,Tryz.ntmps152
  go_wp2;go_ret;exact⟨zAD (by simp only[Int.toNat_natCast];rw[hcl.out]),0,rfl⟩
theorem zAa.drewN{w:World}{S:Nat}{s:ByteArray}(h:zAa w S s)(n:Nat):zAa (w.drewN n) S s:=⟨h.1,h.2⟩
theorem zIv(Z:zD)(v:Value)(zs:List Int)(x:Int)(w:World)(h:zL Z w v zs):
  Calls Tryz.prog 159 #[v,.int .i64 x] w λe w'=>e= .returned (.bool (zs.contains x))∧w=w':=by
 have hlen:zs.length*8≤140737488355328:=by obtain⟨⟨_,_,_,_,_,h8,_⟩,_⟩:=h;exact h8
 by_cases hne:zs=[]
 ·subst hne;obtain⟨⟨A,cap,rfl,_⟩,_⟩:=h;refine(Tryz.slices_Contains_int_empty A cap x w).mono ?_;rintro e w' ⟨rfl,rfl⟩;exact⟨rfl,rfl⟩
 ·obtain⟨b,off,cap,rfl,_,_,_,hc⟩:=h.open_ hne;refine(Tryz.slices_Contains_int b off zs.length cap zs x w (Nat.le_refl _) (by omega) hc).mono ?_;rintro e w' ⟨rfl,rfl⟩;exact⟨by rw[List.take_length],rfl⟩
theorem zIw(S:Nat)(s:ByteArray)(i:Int)(Z:zD)(v:Value)(cls:List Int)(w:World)(h:zAa w S s)(hi:0≤i)(hi2:i≤s.size)(hs:s.size≤140737488355328)(hv:zL Z w v cls):
  Calls Tryz.prog 151 #[.pointer (some ⟨S,0,none⟩),.int .i64 i,v] w λe w'=>e= .returned (.int .i64 (zm s cls i.toNat))∧∃n,w'=w.drewN n:=by
 obtain⟨k0,rfl⟩:∃k:Nat,i=k:=⟨i.toNat,by omega⟩;have h0:=h.1;have H:=hid h;have HV:=hid hv;clear h hv;go_enter Tryz.func151,Tryz.ntmps151
 go_wp2;go_loopw[1] (λi wr=>∃k q:Nat,k0≤k∧k≤s.size∧i= .int .i64 k∧Hid (∀j,k0≤j->j<k->cls.contains (zP s j)=true)∧wr=w.drewN q) (λi _=>s.size-(intOf i).toNat);case atStart=>exact⟨k0,0,Nat.le_refl _,by omega,rfl,λj a b=>by omega,rfl⟩
 case round=>
  obtain⟨k,q,hk0,hk,rfl,hall,rfl⟩:=hrel;by_cases hlt:k<s.size
  ·have hlt':decide ((k:Int)<(s.size:Int))=true:=by simp;omega
   cases hct:cls.contains (zP s k)with
   |true=>
    have HCT:=hid hct;clear hct
    repeat' (first|(go_big_may;first
     |(go_at_call 152;refine(zHT S s k _ (H.out.drewN q) (by omega) (by omega) hs).mono ?_;rintro e w' ⟨rfl,n,rfl⟩;simp only[Int.toNat_natCast])
     |(go_at_call 159;refine(zIv Z v cls (zP s k) _ (HV.out.drewN _)).mono ?_;rintro e w' ⟨rfl,rfl⟩;rw[HCT.out]))|((with_reducible apply zCN);rfl;first|((with_reducible apply zCM);rfl;rfl;rfl;exact zBZ.app;intro bb hbb;(simp only[nr]))|((with_reducible apply zBx);rfl;rfl;rfl;exact zBZ.app;intro bb hbb;(simp only[nr]))|((with_reducible apply zB8);rfl;rfl;rfl;simp only[])|((with_reducible apply zBj);rfl;rfl;(first|exact Or.inl rfl|exact Or.inr rfl);(simp only[nr]))|((with_reducible apply zB7);rfl;rfl;rfl;rfl;exact(by constructor);rfl;(simp only[nr]))|((with_reducible apply zB0);rfl;rfl;rfl;rfl;exact(by constructor);rfl;(simp only[nr]))|((with_reducible apply zBS);rfl;first|((with_reducible apply zAs);rfl;rfl;rfl;exact(by constructor);rfl;rfl;rfl;rfl;(simp only[nr]))|((with_reducible apply zBG);rfl;rfl;rfl;exact(by constructor);rfl;rfl;rfl;rfl;(simp only[nr])))|((with_reducible apply zAb);rfl;rfl;rfl;exact(by constructor);(intro hG;(try simp only[Bool.and_eq_true,Bool.not_eq_true']at hG);(first|subst hG|(obtain⟨h1,h2⟩:=hG;subst h1;subst h2)|(obtain⟨⟨h1,h2⟩,h3⟩:=hG;subst h1;subst h2;subst h3));(try simp only[zA2,zAM,Bool.not_true,Bool.not_false,Bool.true_and,Bool.false_and,Bool.and_self]);go_simp;with_reducible rfl);(simp only[nr]))|((with_reducible apply zB5);rfl;rfl;rfl;all_goals(intro hb;subst hb;(try simp only[zA2,zAM,Bool.not_true,Bool.not_false,Bool.true_and,Bool.false_and,Bool.and_self])))|((with_reducible apply zBR);rfl;rfl;rfl;all_goals(intro hb;(first|subst hb|((try simp only[Bool.and_eq_true,Bool.not_eq_true']at hb);obtain⟨h1,h2⟩:=hb;subst h1;subst h2));(try simp only[zA2,zAM,Bool.not_true,Bool.not_false,Bool.true_and,Bool.false_and,Bool.and_self]))))|((with_reducible apply zB6);rfl;rfl;first|((with_reducible apply zB3);rfl;rfl;rfl;rfl;(simp only[nr]))|((with_reducible apply zB4);rfl;rfl;rfl;rfl;(simp only[nr]))|((with_reducible apply zBF);rfl;rfl;rfl;rfl;rfl;(simp only[nr]))|((with_reducible apply zBQ);rfl;rfl;rfl;rfl;rfl;(simp only[nr])))|go_values|go_guarded|go_step|go_upon|go_back|dsimp only)
    go_roundw
    case rel=>exact⟨k+1,q+n,by omega,by omega,by go_num,λj a b=>by
     by_cases e:j=k
     ·subst e;exact HCT.out
     ·exact hall.out j a (by omega),by first|rfl|rw[World.drewN_drewN]⟩
    case measure=>simp[intOf];omega
   |false=>
    have HCT:=hid hct;clear hct
    repeat' (first|(go_big_may;first
     |(go_at_call 152;refine(zHT S s k _ (H.out.drewN q) (by omega) (by omega) hs).mono ?_;rintro e w' ⟨rfl,n,rfl⟩;simp only[Int.toNat_natCast])
     |(go_at_call 159;refine(zIv Z v cls (zP s k) _ (HV.out.drewN _)).mono ?_;rintro e w' ⟨rfl,rfl⟩;rw[HCT.out]))|((with_reducible apply zCN);rfl;first|((with_reducible apply zCM);rfl;rfl;rfl;exact zBZ.app;intro bb hbb;(simp only[nr]))|((with_reducible apply zBx);rfl;rfl;rfl;exact zBZ.app;intro bb hbb;(simp only[nr]))|((with_reducible apply zB8);rfl;rfl;rfl;simp only[])|((with_reducible apply zBj);rfl;rfl;(first|exact Or.inl rfl|exact Or.inr rfl);(simp only[nr]))|((with_reducible apply zB7);rfl;rfl;rfl;rfl;exact(by constructor);rfl;(simp only[nr]))|((with_reducible apply zB0);rfl;rfl;rfl;rfl;exact(by constructor);rfl;(simp only[nr]))|((with_reducible apply zBS);rfl;first|((with_reducible apply zAs);rfl;rfl;rfl;exact(by constructor);rfl;rfl;rfl;rfl;(simp only[nr]))|((with_reducible apply zBG);rfl;rfl;rfl;exact(by constructor);rfl;rfl;rfl;rfl;(simp only[nr])))|((with_reducible apply zAb);rfl;rfl;rfl;exact(by constructor);(intro hG;(try simp only[Bool.and_eq_true,Bool.not_eq_true']at hG);(first|subst hG|(obtain⟨h1,h2⟩:=hG;subst h1;subst h2)|(obtain⟨⟨h1,h2⟩,h3⟩:=hG;subst h1;subst h2;subst h3));(try simp only[zA2,zAM,Bool.not_true,Bool.not_false,Bool.true_and,Bool.false_and,Bool.and_self]);go_simp;with_reducible rfl);(simp only[nr]))|((with_reducible apply zB5);rfl;rfl;rfl;all_goals(intro hb;subst hb;(try simp only[zA2,zAM,Bool.not_true,Bool.not_false,Bool.true_and,Bool.false_and,Bool.and_self])))|((with_reducible apply zBR);rfl;rfl;rfl;all_goals(intro hb;(first|subst hb|((try simp only[Bool.and_eq_true,Bool.not_eq_true']at hb);obtain⟨h1,h2⟩:=hb;subst h1;subst h2));(try simp only[zA2,zAM,Bool.not_true,Bool.not_false,Bool.true_and,Bool.false_and,Bool.and_self]))))|((with_reducible apply zB6);rfl;rfl;first|((with_reducible apply zB3);rfl;rfl;rfl;rfl;(simp only[nr]))|((with_reducible apply zB4);rfl;rfl;rfl;rfl;(simp only[nr]))|((with_reducible apply zBF);rfl;rfl;rfl;rfl;rfl;(simp only[nr]))|((with_reducible apply zBQ);rfl;rfl;rfl;rfl;rfl;(simp only[nr])))|go_values|go_guarded|go_step|go_upon|go_back|dsimp only)
    go_ret;exact⟨zAD (by rw[Int.toNat_natCast,zFS hk0 (by omega) hall.out (λ_=>HCT.out)]),q+n,by first|rfl|rw[World.drewN_drewN]⟩
  ·(obtain rfl:k=s.size:=by omega);(have hlt':decide ((s.size:Int)<(s.size:Int))=false:=by simp);go_wp2;go_ret;exact⟨zAD (by rw[Int.toNat_natCast,zFS hk0 (Nat.le_refl _) hall.out (λh=>absurd h (Nat.lt_irrefl _))]),q,rfl⟩
theorem zTT(w:World)(zs:List Int)(t:TypeId)(hl:zs.length≤1000)(hf:∀x∈zs,I64 x):zL (λ_=>True) (w.alloc (.cells (zs.map (.int .i64)).toArray t)) (.slice (some ⟨w.heap.size,0,none⟩) zs.length zs.length) zs:=
 ⟨⟨_,_,rfl,Nat.le_refl _,by omega,by omega,λ_=>⟨w.heap.size,0,rfl,trivial,λj u hu=>by
  have hb:Blk (w.alloc (.cells (zs.map (.int .i64)).toArray t)) w.heap.size t _:=Blk.new w t _
  rw[hb.cell];simpa using hu⟩⟩,hf⟩
def zFI(s:ByteArray)(j:Nat):Int:=Lib.indexByte (s.extract j s.size).data.toList 10
theorem zPn(s:ByteArray){j:Nat}(hj:j≤s.size): -1≤zFI s j∧zFI s j≤s.size-j:=by
 have h:∀(l:List UInt8)(c:UInt8),-1≤Lib.indexByte l c∧Lib.indexByte l c≤l.length:=by
  intro l c
  induction l with
  |nil=>simp[Lib.indexByte]
  |cons a r ih=>unfold Lib.indexByte;split<;>(try split)<;>simp<;>omega
 have:=h (s.extract j s.size).data.toList 10;unfold zFI;refine⟨this.1,Int.le_trans this.2 ?_⟩;simp;omega
theorem zTU{s:ByteArray}{j:Nat}(h:zP s j=2)(h2:¬zFI s j<0):1≤zFI s j:=by
 have hlt:j<s.size:=by
  rcases Nat.lt_or_ge j s.size with h'|h'
  ·exact h'
  ·rw[zFr h']at h;omega
 unfold zFI at*
 have e:(s.extract j s.size).data.toList =s[j]::(s.extract (j+1) s.size).data.toList :=by
  rw[Lib.extract_data,Lib.extract_data]
  have:s.data.toList.drop j=s[j]::s.data.toList.drop (j+1):=by
   rw[List.drop_eq_getElem_cons (by simpa using hlt)];congr 1
  simp only[this];have e2:s.size-j=(s.size-(j+1))+1:=by omega
  rw[e2,List.take_succ_cons]
 rw[e]at h2⊢;rw[zDL hlt]at h
 have hne:(s[j]==10)=false:=by
  rw[beq_eq_false_iff_ne];intro e10;rw[e10]at h;simp[zCE]at h
 unfold Lib.indexByte at h2⊢;rw[hne]at h2⊢;simp only[Bool.false_eq_true,if_false]at h2⊢;split
 ·rename_i h3;rw[if_pos h3]at h2;omega
 ·rename_i h3;rw[if_neg h3]at h2;have h4:Lib.indexByte (s.extract (j+1) s.size).data.toList 10≠ -1:=by simpa using h3
  omega
def zEX(s:ByteArray):Nat->Nat->Nat
 |0,j=>j
 |f+1,j=>if zP s j=2 then(if zFI s j<0 then s.size else zEX s f (zm s [1] (j+(zFI s j).toNat)))else j
def zEY(s:ByteArray)(i:Nat):Nat:=zEX s (s.size+1) (zm s [1] i)
theorem zPo(S:Nat)(s:ByteArray)(i:Int)(w:World)(h:zAa w S s)(hi:0≤i)(hi2:i≤s.size)(hs:s.size≤140737488355328):
  Calls Tryz.prog 141 #[.pointer (some ⟨S,0,none⟩),.int .i64 i] w λe w'=>e= .returned (.int .i64 (zEY s i.toNat))∧Below w.heap.size w w':=by
 obtain⟨k0,rfl⟩:∃k:Nat,i=k:=⟨i.toNat,by omega⟩;have hS:=h.lt;have H:=hid h;clear h;have hw1:=λ(W:World)(k:Nat)(hk:k≤s.size)(hsc:zAa W S s)=>zIw S s k (λ_=>True) (.slice (some ⟨W.heap.size,0,none⟩) 1 1) [1] (W.alloc (.cells #[.int .i64 1] 3)) (hsc.below (zE W _) hsc.lt) (by omega) (by omega) hs (zTT W [1] 3 (by decide) (by simp[I64]));have HW:=hid hw1;clear hw1;go_enter Tryz.func141,Tryz.ntmps141
 go_wp2_with fail
 refine(HW.out _ k0 (by omega) H.out).mono ?_;rintro e w1 ⟨rfl,n1,rfl⟩;simp only[Int.toNat_natCast];go_wp2;have hr0:=zBf s [1] (i:=k0) (by omega);have hbw:Below w.heap.size w ((w.alloc (.cells #[.int .i64 1] 3)).drewN n1):=below_drewN' (zE w _) n1;go_loopw[1] (λi wr=>∃j f:Nat,j≤s.size∧i= .int .i64 j∧Hid (zEX s f j=zEY s k0)∧s.size<f+j∧Below w.heap.size w wr) (λi _=>s.size+1-(intOf i).toNat);case atStart=>exact⟨_,s.size+1,hr0.2.1,rfl,rfl,by omega,hbw⟩
 case round=>
  clear hr0 hbw;obtain⟨j,f,hj,rfl,hg,hf,hbel⟩:=hrel;have hsc:=H.out.below hbel hS;have s1:=hsc.1;have HSC:=hid hsc;have zXT:=hid (λb=>(hsc.2 b));clear hsc;obtain⟨f,rfl⟩:∃f',f=f'+1:=⟨f-1,by omega⟩;by_cases hc2:zP s j=2
  ·have hlt:j<s.size:=by
    rcases Nat.lt_or_ge j s.size with h'|h'
    ·exact h'
    ·rw[zFr h']at hc2;omega
   have hix:∀W:World,Calls Tryz.prog 153 #[.string (s.extract j s.size),.int .u8 10] W λe w'=>e= .returned (.int .i64 (zFI s j))∧W=w':=λW=>by
    refine(Tryz.strings_IndexByte (s.extract j s.size) 10 W).mono ?_;rintro e w' ⟨rfl,rfl⟩;exact⟨rfl,rfl⟩
   have HIX:=hid hix;clear hix;have hnl:=zPn s hj;(have h2:((zP s j)==(2:Int))=true:=by simp[hc2]);have HC2:=hid hc2;by_cases hneg:zFI s j<0
   ·(have HG:Hid (zEX s (f+1) j=s.size):=by unfold zEX;rw[if_pos hc2,if_pos hneg];rfl);clear hc2
    go_wp2_with(first
     |(go_at_call 152;refine(zHT S s j _ HSC.out (by omega) (by omega) hs).mono ?_;rintro e w' ⟨rfl,n,rfl⟩;simp only[Int.toNat_natCast])
     |(go_at_call 153;refine(HIX.out _).mono ?_;rintro e w' ⟨rfl,rfl⟩))
    go_ret;exact⟨zAD (by rw[Int.toNat_natCast,<-hg.out,HG.out]),below_drewN' hbel _⟩
   ·have hp:=zTU hc2 hneg;obtain⟨m,hm⟩:∃m:Nat,zFI s j=m:=⟨(zFI s j).toNat,by omega⟩;(have HG:Hid (zEX s (f+1) j=zEX s f (zm s [1] (j+m))):=by rw[zEX,if_pos hc2,if_neg hneg,hm,Int.toNat_natCast];rfl);rw[hm]at hnl hp hneg;have HIX':=hid (λW=>hm▸HIX.out W);(have hle:j+m≤s.size:=by omega);have hr:=zBf s [1] hle;clear hc2 hm HIX
    go_wp2_with(first
     |(go_at_call 152;refine(zHT S s j _ HSC.out (by omega) (by omega) hs).mono ?_;rintro e w' ⟨rfl,n,rfl⟩;simp only[Int.toNat_natCast])
     |(go_at_call 153;refine(HIX'.out _).mono ?_;rintro e w' ⟨rfl,rfl⟩))
    refine(HW.out _ (j+m) hle (HSC.out.drewN _)).mono ?_;rintro e w2 ⟨rfl,n2,rfl⟩;simp only[Int.toNat_natCast];go_wp2;go_roundw;(case rel=>exact⟨_,f,hr.2.1,rfl,by rw[Hid,<-HG.out,hg.out],by omega,below_drewN' ((below_drewN' hbel _).alloc (by simp;exact hbel.size) _) _⟩);case measure=>simp[intOf];omega
  ·(have h2:((zP s j)==(2:Int))=false:=by simp[hc2]);(have HG:Hid (zEX s (f+1) j=j):=by rw[zEX,if_neg hc2];rfl);clear hc2;go_wp2_with(go_at_call 152;refine(zHT S s j _ HSC.out (by omega) (by omega) hs).mono ?_;rintro e w' ⟨rfl,n,rfl⟩;simp only[Int.toNat_natCast]);go_ret;exact⟨zAD (by rw[Int.toNat_natCast,<-hg.out,HG.out]),below_drewN' hbel _⟩
def zSQ:ByteArray:=⟨#[34,10]⟩
theorem zNX(q:ByteArray)(hq:∀b∈q.data.toList,b.toNat<128)(w:World):
  Calls Tryz.prog 163 #[.string q,.int .i32 65533] w λe w'=>e= .returned (.int .i64 (-1))∧Below w.heap.size w w':=by
 have HQ:=hid hq;clear hq;go_enter Tryz.func163,Tryz.ntmps163
 go_wp2;go_loopg[5] q.size (λg _ wx=>∃i:Nat,i+g=q.size∧wx=w.iter q i)
 case atStart=>exact⟨0,by omega,rfl⟩
 case round=>
  obtain⟨i,hig,rfl⟩:=hrel
  cases gk with
  |zero=>
   (obtain rfl:i=q.size:=by omega);(have hnx:=λty=>run_next_end (P:=Tryz.prog) w q q.size ty (by omega));go_wp2;go_ret;exact⟨rfl,(Below.refl _ _).alloc (Nat.le_refl _) _⟩
  |succ g=>
   (have hi:i<q.size:=by omega);obtain⟨x,hx⟩:∃x:UInt8,q[i]'hi=x:=⟨_,rfl⟩;have hx128:x.toNat<128:=HQ.out x (List.mem_of_getElem? (by rw[zBD hi,hx]));(have hnx:=λty=>run_next_ascii (P:=Tryz.prog) w q i ty hi (by rw[hx];exact hx128));rw[hx]at hnx;clear hx;(have hne:(((x.toNat:Nat):Int)==65533)=false:=by rw[beq_eq_false_iff_ne];omega);go_wp2;(go_roundg g);(case measure=>omega);case rel=>exact⟨i+1,by omega,rfl⟩
theorem zNY(w:World)(c:Int)(s:ByteArray)(hs:s.size=0):Calls Tryz.prog 153 #[.string s,.int .u8 c] w λe w'=>e= .returned (.int .i64 (-1))∧w=w':=by
 refine(Tryz.strings_IndexByte s c w).mono ?_;rintro e w' ⟨rfl,rfl⟩;have:s.data.toList=[]:=List.eq_nil_of_length_eq_zero (by simpa using hs);rw[this];exact⟨rfl,rfl⟩
theorem zLp(q:ByteArray)(hq:∀b∈q.data.toList,b.toNat<128)(hq2:q.size=2)(r:Int)(h1:128≤r)(h2:r≤2147483647)(w:World):
  Calls Tryz.prog 163 #[.string q,.int .i32 r] w λe w'=>e= .returned (.int .i64 (-1))∧Below w.heap.size w w':=by
 by_cases he:r=65533
 ·subst he;exact zNX q hq w
 have hne:(r==65533)=false:=by simpa using he
 have hn128:¬r<128:=by omega
 cases hv:Lib.validRune r with
 |false=>
  have HV:=hid hv;clear hv he hq;go_enter Tryz.func163,Tryz.ntmps163
  go_wp2_with(go_at_call 175;refine(Tryz.utf8_ValidRune _ _).mono ?_;rintro e w' ⟨rfl,rfl⟩;rw[HV.out]);go_ret;exact⟨rfl,Below.refl _ _⟩
 |true=>
  have HV:=hid hv
  have hv8:Utf8.valid r=true:=by
   rw[validRune_eq];have:=hv;unfold Lib.validRune at this;unfold validRune;simp only[decide_eq_true_eq]at this⊢;exact this
  obtain⟨e1,e2,e3⟩:=encode_facts r hv8 h1;have he3:=e3 (by omega);have HQ:=hid hq;clear hv he hv8 hq e3;have e2':(Utf8.encode r).size ≤9223372036854775807:=by omega
  by_cases h3:3≤(Utf8.encode r).size
  ·(go_enter Tryz.func163,Tryz.ntmps163);go_wp2_with(go_at_call 175;refine(Tryz.utf8_ValidRune _ _).mono ?_;rintro e w' ⟨rfl,hw⟩;subst hw;rw[HV.out]);go_step3;go_wp2;refine wp_loop_once ?_;(have hsz:¬((Utf8.encode r).size :Int)-1<2:=by omega);go_wp2;go_ret;exact⟨rfl,Below.refl _ _⟩
  ·(have h22:(Utf8.encode r).size =2:=by omega);(have hq1:1<q.size:=by omega);(have hr1:1<(Utf8.encode r).size :=by omega);have hx:q[1].toNat <128:=HQ.out _ (List.mem_of_getElem? (zBD hq1));have hy:128≤((Utf8.encode r)[1]).toNat :=by simpa[h22]using he3
   have hxy:(((q[1].toNat :Nat):Int)!=(((Utf8.encode r)[1].toNat :Nat):Int))=true:=by
    rw[bne_iff_ne];omega
   clear he3 h3 e1 e2 e2';(go_enter Tryz.func163,Tryz.ntmps163);go_wp2_with(go_at_call 175;refine(Tryz.utf8_ValidRune _ _).mono ?_;rintro e w' ⟨rfl,hw⟩;subst hw;rw[HV.out]);go_step3;go_wp2;refine wp_loop_once ?_;go_wp2;go_step3;go_wp2;go_quiet(fail);go_wp2;go_quiet((go_at_call 153;exact zLe (zNY _ _ _ (by simp))));go_wp2;rw[Exit.noGoto_ret];go_wp2
   (try(rw[Exit.noGoto_ret];go_wp2))
   go_ret;exact⟨rfl,below_drewN' (Below.refl _ _) _⟩
theorem zU5{x:UInt8}(h:(x.toNat / 64==2)=true):128≤x.toNat:=by
 have:x.toNat / 64=2:=by simpa using h
 omega
theorem zTV(s:ByteArray)(i:Nat)(h:i<s.size):s.get! i=s[i]:=by
 have:=get_at s i h;simpa using this
theorem zP6(s:ByteArray)(i:Nat)(h:i<s.size)(ha:128≤(s[i]).toNat):
  i+(Utf8.decode s i).2≤s.size∧∀j,i≤j->j<i+(Utf8.decode s i).2->∃hj:j<s.size,128≤(s[j]).toNat :=by
 have key:∀k,(decide (i+k<s.size)&&(s.get! (i+k)).toNat / 64==2)=true->∃hj:i+k<s.size,128≤(s[i+k]).toNat :=by
  intro k hk;rw[Bool.and_eq_true]at hk;have hlt:i+k<s.size:=by simpa using hk.1
  exact⟨hlt,zU5 (by rw[<-zTV s _ hlt];exact hk.2)⟩
 have hn:¬(s.get! (i+0)).toNat <128:=by rw[get_at s i h];omega
 unfold Utf8.decode;simp only[hn,if_false]
 have one:i+1≤s.size∧∀j,i≤j->j<i+1->∃hj:j<s.size,128≤(s[j]).toNat :=
  ⟨h,λj a b=>by
   obtain rfl:j=i:=by omega
   exact⟨h,ha⟩⟩
 split
 ·rename_i h1;rw[Bool.and_eq_true]at h1;obtain⟨l1,g1⟩:=key 1 h1.2
  have two:i+2≤s.size∧∀j,i≤j->j<i+2->∃hj:j<s.size,128≤(s[j]).toNat :=
   ⟨l1,λj a b=>by
    rcases(by omega:j=i∨j=i+1)with rfl|rfl
    ·exact⟨h,ha⟩
    ·exact⟨l1,g1⟩⟩
  split
  ·exact two
  ·exact one
 ·split
  ·rename_i h1;rw[Bool.and_eq_true,Bool.and_eq_true]at h1;obtain⟨l1,g1⟩:=key 1 h1.1.2;obtain⟨l2,g2⟩:=key 2 h1.2
   have three:i+3≤s.size∧∀j,i≤j->j<i+3->∃hj:j<s.size,128≤(s[j]).toNat :=
    ⟨l2,λj a b=>by
     rcases(by omega:j=i∨j=i+1∨j=i+2)with rfl|rfl|rfl
     ·exact⟨h,ha⟩
     ·exact⟨l1,g1⟩
     ·exact⟨l2,g2⟩⟩
   split
   ·exact three
   ·exact one
  ·split
   ·rename_i h1;rw[Bool.and_eq_true,Bool.and_eq_true,Bool.and_eq_true]at h1;obtain⟨l1,g1⟩:=key 1 h1.1.1.2;obtain⟨l2,g2⟩:=key 2 h1.1.2;obtain⟨l3,g3⟩:=key 3 h1.2
    have four:i+4≤s.size∧∀j,i≤j->j<i+4->∃hj:j<s.size,128≤(s[j]).toNat :=
     ⟨l3,λj a b=>by
      rcases(by omega:j=i∨j=i+1∨j=i+2∨j=i+3)with rfl|rfl|rfl|rfl
      ·exact⟨h,ha⟩
      ·exact⟨l1,g1⟩
      ·exact⟨l2,g2⟩
      ·exact⟨l3,g3⟩⟩
    split
    ·exact four
    ·exact one
   ·exact one
theorem zLG{l chars:List UInt8}:∀(n i:Nat),Lib.NoAny l chars i->(∀j,i≤j->j<i+n->∃x,l[j]? =some x∧chars.contains x=false)->Lib.NoAny l chars (i+n)
 |0,_,h,_=>h
 |n+1,i,h,hx=>by
  obtain⟨x,h1,h2⟩:=hx i (Nat.le_refl _) (by omega);have:=zLG n (i+1) (h.succ h1 h2) (λj a b=>hx j (by omega) (by omega));rwa[show i+1+n=i+(n+1) from by omega]at this
theorem run_next_at{P:Program}(w:World)(B:Nat)(s:ByteArray)(pos:Nat)(ty:TypeId)(hB:w.heap[B]? =some (.stringIter s pos))(h:pos<s.size):
  (Instr.next (.pointer (some ⟨B,0,none⟩)) true ty).run P w=
   .ok (.tuple #[.bool true,.int .i64 pos,.int .i32 (Utf8.decode s pos).1]) (ChangeMaps.setBlock w B (.stringIter s (pos+(Utf8.decode s pos).2))):=by
 simp only[Instr.next,getObj,setObj,Sem.run_bind,Sem.run,hB,Result.andThen,h,if_true];simp[goInt,ChangeMaps.setBlock]
theorem zLH{P:Program}(w:World)(B:Nat)(s:ByteArray)(pos:Nat)(ty:TypeId)(hB:w.heap[B]? =some (.stringIter s pos))(h:¬pos<s.size):
  (Instr.next (.pointer (some ⟨B,0,none⟩)) true ty).run P w= .ok (.tuple #[.bool false]) w:=by
 simp[Instr.next,getObj,Sem.run,hB,h]
theorem zLq{w:World}{B:Nat}{o o':Obj}(h:w.heap[B]? =some o):(ChangeMaps.setBlock w B o').heap[B]? =some o'∧zA (λb=>b≠B) w (ChangeMaps.setBlock w B o')∧(ChangeMaps.setBlock w B o').heap.size =w.heap.size:=by
 have hlt:=(Array.getElem?_eq_some_iff.1 h).1;refine⟨by simp[ChangeMaps.setBlock,hlt],⟨rfl,rfl,rfl,by simp[ChangeMaps.setBlock],λk _ hk=> ?_⟩,by simp[ChangeMaps.setBlock]⟩;simp only[ChangeMaps.setBlock,Array.getElem?_setIfInBounds];rw[if_neg (λe=>hk e.symm)]
theorem zLr(q:ByteArray)(hq:∀b∈q.data.toList,b.toNat<128)(hq2:q.size=2)(s:ByteArray)(h8:s.size≤8)(w:World):
  Calls Tryz.prog 155 #[.string s,.string q] w λe w'=>e= .returned (.int .i64 (Lib.indexAny s.data.toList q.data.toList))∧Below w.heap.size w w':=by
 have HQ:=hid hq;clear hq
 have hemp:q.toList.isEmpty=false:=by
  rw[ByteArray.toList_eq]
  cases h:q.data.toList with
  |nil=>
   (have hl:q.data.toList.length=2:=by simpa using hq2);rw[h]at hl;simp at hl
  |cons _ _=>rfl
 have hn1:((q.size:Int)==1)=false:=beq_eq_false_iff_ne.2 (by omega);have h8z:decide ((8:Int)<(s.size:Int))=false:=decide_eq_false (by omega);go_enter Tryz.func155,Tryz.ntmps155
 go_wp2_with(go_at_call 164;refine(Tryz.strings_shouldUseASCIISet _ _).mono ?_;rintro e w' ⟨rfl,hw⟩;rw[hw,h8z]);go_loopg[9,10] s.size (λg _ _ wx=>∃i:Nat,i≤s.size∧s.size≤i+g∧Below w.heap.size w wx∧wx.heap[w.heap.size]? =some (.stringIter s i)∧Hid (Lib.NoAny s.data.toList q.data.toList i))
 case atStart=>exact⟨0,Nat.zero_le _,Nat.le_add_left _ _,zE w _,World.iter_heap _ _ _,Lib.NoAny.zero _ _⟩
 case round=>
  obtain⟨i,hi0,hig,hbel,hit,hno⟩:=hrel;by_cases hi:i<s.size
  ·obtain⟨g,rfl⟩:∃g',gk=g'+1:=⟨gk-1,by omega⟩;(have hnx:=λty=>run_next_at (P:=Tryz.prog) wr w.heap.size s i ty hit hi);obtain⟨f1,f2,f3⟩:=zLq (o':= .stringIter s (i+(Utf8.decode s i).2)) hit;have hbel2:Below w.heap.size w (ChangeMaps.setBlock wr w.heap.size (.stringIter s (i+(Utf8.decode s i).2))):=zA1 hbel f2 (Nat.le_refl _) hbel.size;generalize ChangeMaps.setBlock wr w.heap.size (.stringIter s (i+(Utf8.decode s i).2))=w1 at*;have hlt1:w.heap.size<w1.heap.size:=(Array.getElem?_eq_some_iff.1 f1).1;by_cases hx:(s[i]).toNat <128
   ·have hd:=decode_ascii s i hi hx;have hdl:=congrArg Prod.fst hd;have hdr:=congrArg Prod.snd hd;simp only at hdl hdr;rw[hdl]at hnx;rw[hdr]at f1;have hxl:s.data.toList[i]? =some s[i]:=zBD hi;have Hx:=hid hxl;clear hxl hd hdl hdr;generalize s[i]=x at*;have hcon:=Lib.contains_iff_indexByte q.data.toList x;(have hback:((x.toNat:Int)).toNat.toUInt8 =x:=by simp);have HBK:=hid hback;clear hback
    cases hin:q.data.toList.contains x with
    |false=>
     have HIN:=hid hin;rw[hin]at hcon;have hlt:¬((0:Int)≤Lib.indexByte q.data.toList x):=of_decide_eq_false hcon.symm;clear hcon hin;go_wp2_with(go_at_call 163;refine(Tryz.strings_IndexRune_ascii _ _ _ (by omega) (by omega)).mono ?_;rintro e w' ⟨rfl,hw⟩;rw[hw,HBK.out]);(go_roundg g);(case measure=>omega);case rel=>exact⟨i+1,by omega,by omega,hbel2,f1,hno.out.succ Hx.out HIN.out⟩
    |true=>
     have HIN:=hid hin;rw[hin]at hcon;have hge:(0:Int)≤Lib.indexByte q.data.toList x:=of_decide_eq_true hcon.symm;clear hcon hin;go_wp2_with(go_at_call 163;refine(Tryz.strings_IndexRune_ascii _ _ _ (by omega) (by omega)).mono ?_;rintro e w' ⟨rfl,hw⟩;rw[hw,HBK.out]);go_ret;exact⟨zAD (by rw[Lib.indexAny_hit hno.out Hx.out HIN.out]),hbel2⟩
   ·obtain⟨d1,d2⟩:=decode_high s i hi (by omega);have d3:=decode_le s i;obtain⟨d4,d5⟩:=zP6 s i hi (by omega)
    have hno2:Lib.NoAny s.data.toList q.data.toList (i+(Utf8.decode s i).2):=zLG _ i hno.out (λj a b=>by
     obtain⟨hj,hj2⟩:=d5 j a b;refine⟨s[j],zBD hj,?_⟩
     cases hc:q.data.toList.contains s[j]with
     |false=>rfl
     |true=>
      have:=HQ.out s[j] (by simpa using hc)
      omega)
    have HNO:=hid hno2;clear hno2 d5 hno;generalize (Utf8.decode s i).1=r at*;generalize (Utf8.decode s i).2=n at*;(have hr2:(r:Int)≤2147483647:=by omega);go_wp2_with(go_at_call 163;refine(zLp q HQ.out hq2 _ (by omega) hr2 _).mono ?_;rintro e w2 ⟨rfl,hb2⟩);(go_roundg g);(case measure=>omega);case rel=>exact⟨i+n,d4,by omega,hbel2.trans (hb2.mono (by omega)),(hb2.block _ hlt1).trans f1,HNO.out⟩
  ·(obtain rfl:i=s.size:=by omega);(have hnx:=λty=>zLH (P:=Tryz.prog) wr w.heap.size s s.size ty hit hi);go_wp2;go_ret;exact⟨zAD (by rw[Lib.indexAny_none (by simpa using hno.out)]),hbel⟩
theorem Tryz.zero206(w:World):(zeroValue 198).run Tryz.prog w= .ok (.agg (Array.replicate 256 (.bool false))) w:=by kernel_rfl
theorem zRB(q:ByteArray)(hq:∀b∈q.data.toList,b.toNat<128)(hq2:q.size=2)(s:ByteArray)(hs:s.size≤20000)(w:World):
  Calls Tryz.prog 155 #[.string s,.string q] w λe w'=>e= .returned (.int .i64 (Lib.indexAny s.data.toList q.data.toList))∧Below w.heap.size w w':=by
 by_cases h8:s.size≤8
 ·exact zLr q hq hq2 s h8 w
 ·refine(Tryz.strings_IndexAny_long Tryz.zero206 s q w (by omega) (by omega) (by omega) (by omega) (λj b hb=>hq b (List.mem_of_getElem? hb))).mono ?_;rintro e w' ⟨rfl,rfl⟩;exact⟨rfl,.alloc (.alloc (.refl _ _) (Nat.le_refl _) _) (by simp) _⟩
end Go.Proofs.YtonmdbdopchkaaaGreatDoor
