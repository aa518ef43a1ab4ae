/- Texts W7. -/
import Derived.Test.YtimmfbnjndndlaaGreatDoorM10
set_option linter.all false
namespace Go.Proofs.YtimmfbnjndndlaaGreatDoor
open Go.RowKit
set_option maxHeartbeats 2000000
set_option maxRecDepth 100000
theorem ScanAt.drewN{w:World}{S:Nat}{s:ByteArray}(h:ScanAt w S s)(n:Nat):ScanAt (w.drewN n) S s:=⟨h.1,h.2⟩
theorem contains_any(Z:Zone)(v:Value)(zs:List Int)(x:Int)(w:World)(h:Ints Z w v zs):
  Calls Tryz.prog 172 #[v,.int .i64 x] w λe w'=>e= .returned (.bool (zs.contains x))∧w=w':=by
 have hlen:zs.length*8≤140737488355328:=by obtain⟨⟨_,_,_,_,_,h8,_⟩,_⟩:=h;exact h8
 by_cases hne:zs=[]
 ·subst hne;obtain⟨⟨A,cap,rfl,_⟩,_⟩:=h;refine(Tryz.slices_Contains_int_empty A cap x w).mono ?_;rintro e w' ⟨rfl,rfl⟩;exact⟨rfl,rfl⟩
 ·obtain⟨b,off,cap,rfl,_,_,_,hc⟩:=h.open_ hne;refine(Tryz.slices_Contains_int b off zs.length cap zs x w (Nat.le_refl _) (by omega) hc).mono ?_;rintro e w' ⟨rfl,rfl⟩;exact⟨by rw[List.take_length],rfl⟩
theorem while_any(S:Nat)(s:ByteArray)(i:Int)(Z:Zone)(v:Value)(cls:List Int)(w:World)(h:ScanAt w S s)(hi:0≤i)(hi2:i≤s.size)(hs:s.size≤140737488355328)(hv:Ints Z w v cls):
  Calls Tryz.prog 144 #[.pointer (some ⟨S,0,none⟩),.int .i64 i,v] w λe w'=>e= .returned (.int .i64 (runEnd s cls i.toNat))∧∃n,w'=w.drewN n:=by
 obtain⟨k0,rfl⟩:∃k:Nat,i=k:=⟨i.toNat,by omega⟩;have h0:=h.1;have H:=hid h;have HV:=hid hv;clear h hv;go_enter Tryz.func144,Tryz.ntmps144
 go_wp2;go_loopw[1] (λi wr=>∃k q:Nat,k0≤k∧k≤s.size∧i= .int .i64 k∧Hid (∀j,k0≤j->j<k->cls.contains (classAt s j)=true)∧wr=w.drewN q) (λi _=>s.size-(intOf i).toNat);case atStart=>exact⟨k0,0,Nat.le_refl _,by omega,rfl,λj a b=>by omega,rfl⟩
 case round=>
  obtain⟨k,q,hk0,hk,rfl,hall,rfl⟩:=hrel;by_cases hlt:k<s.size
  ·have hlt':decide ((k:Int)<(s.size:Int))=true:=by simp;omega
   cases hct:cls.contains (classAt s k)with
   |true=>
    have HCT:=hid hct;clear hct
    repeat' (first|(go_big_may;first
     |(go_at_call 145;refine(at_any S s k _ (H.out.drewN q) (by omega) (by omega) hs).mono ?_;rintro e w' ⟨rfl,n,rfl⟩;simp only[Int.toNat_natCast])
     |(go_at_call 172;refine(contains_any Z v cls (classAt s k) _ (HV.out.drewN _)).mono ?_;rintro e w' ⟨rfl,rfl⟩;rw[HCT.out]))|((with_reducible apply wpList_isG);rfl;first|((with_reducible apply wpList_gen);rfl;rfl;rfl;exact NotVar.app;intro bb hbb;(simp only[nr]))|((with_reducible apply wpList_gen2);rfl;rfl;rfl;exact NotVar.app;intro bb hbb;(simp only[nr]))|((with_reducible apply wpList_gconst);rfl;rfl;rfl;simp only[])|((with_reducible apply wpList_gskip);rfl;rfl;(first|exact Or.inl rfl|exact Or.inr rfl);(simp only[nr]))|((with_reducible apply wpList_ggmove);rfl;rfl;rfl;rfl;exact(by constructor);rfl;(simp only[nr]))|((with_reducible apply wpList_gmove);rfl;rfl;rfl;rfl;exact(by constructor);rfl;(simp only[nr]))|((with_reducible apply wpList_isGPick);rfl;first|((with_reducible apply wpList_gpick_and);rfl;rfl;rfl;exact(by constructor);rfl;rfl;rfl;rfl;(simp only[nr]))|((with_reducible apply wpList_gpick_or);rfl;rfl;rfl;exact(by constructor);rfl;rfl;rfl;rfl;(simp only[nr])))|((with_reducible apply wpList_guarded);rfl;rfl;rfl;exact(by constructor);(intro hG;(try simp only[Bool.and_eq_true,Bool.not_eq_true']at hG);(first|subst hG|(obtain⟨h1,h2⟩:=hG;subst h1;subst h2)|(obtain⟨⟨h1,h2⟩,h3⟩:=hG;subst h1;subst h2;subst h3));(try simp only[gv_true,gv_false,Bool.not_true,Bool.not_false,Bool.true_and,Bool.false_and,Bool.and_self]);go_simp;with_reducible rfl);(simp only[nr]))|((with_reducible apply wpList_gsplit);rfl;rfl;rfl;all_goals(intro hb;subst hb;(try simp only[gv_true,gv_false,Bool.not_true,Bool.not_false,Bool.true_and,Bool.false_and,Bool.and_self])))|((with_reducible apply wpList_gsplit2);rfl;rfl;rfl;all_goals(intro hb;(first|subst hb|((try simp only[Bool.and_eq_true,Bool.not_eq_true']at hb);obtain⟨h1,h2⟩:=hb;subst h1;subst h2));(try simp only[gv_true,gv_false,Bool.not_true,Bool.not_false,Bool.true_and,Bool.false_and,Bool.and_self]))))|((with_reducible apply wpList_isPick);rfl;rfl;first|((with_reducible apply wpList_pick_t);rfl;rfl;rfl;rfl;(simp only[nr]))|((with_reducible apply wpList_pick_f);rfl;rfl;rfl;rfl;(simp only[nr]))|((with_reducible apply wpList_pick_and);rfl;rfl;rfl;rfl;rfl;(simp only[nr]))|((with_reducible apply wpList_pick_or);rfl;rfl;rfl;rfl;rfl;(simp only[nr])))|go_values|go_guarded|go_step|go_upon|go_back|dsimp only)
    go_roundw
    case rel=>exact⟨k+1,q+n,by omega,by omega,by go_num,λj a b=>by
     by_cases e:j=k
     ·subst e;exact HCT.out
     ·exact hall.out j a (by omega),by first|rfl|rw[World.drewN_drewN]⟩
    case measure=>simp[intOf];omega
   |false=>
    have HCT:=hid hct;clear hct
    repeat' (first|(go_big_may;first
     |(go_at_call 145;refine(at_any S s k _ (H.out.drewN q) (by omega) (by omega) hs).mono ?_;rintro e w' ⟨rfl,n,rfl⟩;simp only[Int.toNat_natCast])
     |(go_at_call 172;refine(contains_any Z v cls (classAt s k) _ (HV.out.drewN _)).mono ?_;rintro e w' ⟨rfl,rfl⟩;rw[HCT.out]))|((with_reducible apply wpList_isG);rfl;first|((with_reducible apply wpList_gen);rfl;rfl;rfl;exact NotVar.app;intro bb hbb;(simp only[nr]))|((with_reducible apply wpList_gen2);rfl;rfl;rfl;exact NotVar.app;intro bb hbb;(simp only[nr]))|((with_reducible apply wpList_gconst);rfl;rfl;rfl;simp only[])|((with_reducible apply wpList_gskip);rfl;rfl;(first|exact Or.inl rfl|exact Or.inr rfl);(simp only[nr]))|((with_reducible apply wpList_ggmove);rfl;rfl;rfl;rfl;exact(by constructor);rfl;(simp only[nr]))|((with_reducible apply wpList_gmove);rfl;rfl;rfl;rfl;exact(by constructor);rfl;(simp only[nr]))|((with_reducible apply wpList_isGPick);rfl;first|((with_reducible apply wpList_gpick_and);rfl;rfl;rfl;exact(by constructor);rfl;rfl;rfl;rfl;(simp only[nr]))|((with_reducible apply wpList_gpick_or);rfl;rfl;rfl;exact(by constructor);rfl;rfl;rfl;rfl;(simp only[nr])))|((with_reducible apply wpList_guarded);rfl;rfl;rfl;exact(by constructor);(intro hG;(try simp only[Bool.and_eq_true,Bool.not_eq_true']at hG);(first|subst hG|(obtain⟨h1,h2⟩:=hG;subst h1;subst h2)|(obtain⟨⟨h1,h2⟩,h3⟩:=hG;subst h1;subst h2;subst h3));(try simp only[gv_true,gv_false,Bool.not_true,Bool.not_false,Bool.true_and,Bool.false_and,Bool.and_self]);go_simp;with_reducible rfl);(simp only[nr]))|((with_reducible apply wpList_gsplit);rfl;rfl;rfl;all_goals(intro hb;subst hb;(try simp only[gv_true,gv_false,Bool.not_true,Bool.not_false,Bool.true_and,Bool.false_and,Bool.and_self])))|((with_reducible apply wpList_gsplit2);rfl;rfl;rfl;all_goals(intro hb;(first|subst hb|((try simp only[Bool.and_eq_true,Bool.not_eq_true']at hb);obtain⟨h1,h2⟩:=hb;subst h1;subst h2));(try simp only[gv_true,gv_false,Bool.not_true,Bool.not_false,Bool.true_and,Bool.false_and,Bool.and_self]))))|((with_reducible apply wpList_isPick);rfl;rfl;first|((with_reducible apply wpList_pick_t);rfl;rfl;rfl;rfl;(simp only[nr]))|((with_reducible apply wpList_pick_f);rfl;rfl;rfl;rfl;(simp only[nr]))|((with_reducible apply wpList_pick_and);rfl;rfl;rfl;rfl;rfl;(simp only[nr]))|((with_reducible apply wpList_pick_or);rfl;rfl;rfl;rfl;rfl;(simp only[nr])))|go_values|go_guarded|go_step|go_upon|go_back|dsimp only)
    go_ret;exact⟨ret_int (by rw[Int.toNat_natCast,runEnd_eq hk0 (by omega) hall.out (λ_=>HCT.out)]),q+n,by first|rfl|rw[World.drewN_drewN]⟩
  ·(obtain rfl:k=s.size:=by omega);(have hlt':decide ((s.size:Int)<(s.size:Int))=false:=by simp);go_wp2;go_ret;exact⟨ret_int (by rw[Int.toNat_natCast,runEnd_eq hk0 (Nat.le_refl _) hall.out (λh=>absurd h (Nat.lt_irrefl _))]),q,rfl⟩
theorem ints_lit(w:World)(zs:List Int)(t:TypeId)(hl:zs.length≤1000)(hf:∀x∈zs,I64 x):Ints (λ_=>True) (w.alloc (.cells (zs.map (.int .i64)).toArray t)) (.slice (some ⟨w.heap.size,0,none⟩) zs.length zs.length) zs:=
 ⟨⟨_,_,rfl,Nat.le_refl _,by omega,by omega,λ_=>⟨w.heap.size,0,rfl,trivial,λj u hu=>by
  have hb:Blk (w.alloc (.cells (zs.map (.int .i64)).toArray t)) w.heap.size t _:=Blk.new w t _
  rw[hb.cell];simpa using hu⟩⟩,hf⟩
def nlAt(s:ByteArray)(j:Nat):Int:=Lib.indexByte (s.extract j s.size).data.toList 10
theorem nlAt_ge(s:ByteArray){j:Nat}(hj:j≤s.size): -1≤nlAt s j∧nlAt s j≤s.size-j:=by
 have h:∀(l:List UInt8)(c:UInt8),-1≤Lib.indexByte l c∧Lib.indexByte l c≤l.length:=by
  intro l c
  induction l with
  |nil=>simp[Lib.indexByte]
  |cons a r ih=>unfold Lib.indexByte;split<;>(try split)<;>simp<;>omega
 have:=h (s.extract j s.size).data.toList 10;unfold nlAt;refine⟨this.1,Int.le_trans this.2 ?_⟩;simp;omega
theorem nlAt_pos{s:ByteArray}{j:Nat}(h:classAt s j=2)(h2:¬nlAt s j<0):1≤nlAt s j:=by
 have hlt:j<s.size:=by
  rcases Nat.lt_or_ge j s.size with h'|h'
  ·exact h'
  ·rw[classAt_ge h']at h;omega
 unfold nlAt at*
 have e:(s.extract j s.size).data.toList =s[j]::(s.extract (j+1) s.size).data.toList :=by
  rw[Lib.extract_data,Lib.extract_data]
  have:s.data.toList.drop j=s[j]::s.data.toList.drop (j+1):=by
   rw[List.drop_eq_getElem_cons (by simpa using hlt)];congr 1
  simp only[this];have e2:s.size-j=(s.size-(j+1))+1:=by omega
  rw[e2,List.take_succ_cons]
 rw[e]at h2⊢;rw[classAt_lt hlt]at h
 have hne:(s[j]==10)=false:=by
  rw[beq_eq_false_iff_ne];intro e10;rw[e10]at h;simp[classOf]at h
 unfold Lib.indexByte at h2⊢;rw[hne]at h2⊢;simp only[Bool.false_eq_true,if_false]at h2⊢;split
 ·rename_i h3;rw[if_pos h3]at h2;omega
 ·rename_i h3;rw[if_neg h3]at h2;have h4:Lib.indexByte (s.extract (j+1) s.size).data.toList 10≠ -1:=by simpa using h3
  omega
def gapT(s:ByteArray):Nat->Nat->Nat
 |0,j=>j
 |f+1,j=>if classAt s j=2 then(if nlAt s j<0 then s.size else gapT s f (runEnd s [1] (j+(nlAt s j).toNat)))else j
def gapS(s:ByteArray)(i:Nat):Nat:=gapT s (s.size+1) (runEnd s [1] i)
theorem gap_any(S:Nat)(s:ByteArray)(i:Int)(w:World)(h:ScanAt w S s)(hi:0≤i)(hi2:i≤s.size)(hs:s.size≤140737488355328):
  Calls Tryz.prog 112 #[.pointer (some ⟨S,0,none⟩),.int .i64 i] w λe w'=>e= .returned (.int .i64 (gapS s i.toNat))∧Below w.heap.size w w':=by
 obtain⟨k0,rfl⟩:∃k:Nat,i=k:=⟨i.toNat,by omega⟩;have hS:=h.lt;have H:=hid h;clear h;have hw1:=λ(W:World)(k:Nat)(hk:k≤s.size)(hsc:ScanAt W S s)=>while_any S s k (λ_=>True) (.slice (some ⟨W.heap.size,0,none⟩) 1 1) [1] (W.alloc (.cells #[.int .i64 1] 3)) (hsc.below (below1 W _) hsc.lt) (by omega) (by omega) hs (ints_lit W [1] 3 (by decide) (by simp[I64]));have HW:=hid hw1;clear hw1;go_enter Tryz.func112,Tryz.ntmps112
 go_wp2_with fail
 refine(HW.out _ k0 (by omega) H.out).mono ?_;rintro e w1 ⟨rfl,n1,rfl⟩;simp only[Int.toNat_natCast];go_wp2;have hr0:=runEnd_spec s [1] (i:=k0) (by omega);have hbw:Below w.heap.size w ((w.alloc (.cells #[.int .i64 1] 3)).drewN n1):=below_drewN' (below1 w _) n1;go_loopw[1] (λi wr=>∃j f:Nat,j≤s.size∧i= .int .i64 j∧Hid (gapT s f j=gapS s k0)∧s.size<f+j∧Below w.heap.size w wr) (λi _=>s.size+1-(intOf i).toNat);case atStart=>exact⟨_,s.size+1,hr0.2.1,rfl,rfl,by omega,hbw⟩
 case round=>
  clear hr0 hbw;obtain⟨j,f,hj,rfl,hg,hf,hbel⟩:=hrel;have hsc:=H.out.below hbel hS;have s1:=hsc.1;have HSC:=hid hsc;have HSC2:=hid (λb=>(hsc.2 b));clear hsc;obtain⟨f,rfl⟩:∃f',f=f'+1:=⟨f-1,by omega⟩;by_cases hc2:classAt s j=2
  ·have hlt:j<s.size:=by
    rcases Nat.lt_or_ge j s.size with h'|h'
    ·exact h'
    ·rw[classAt_ge h']at hc2;omega
   have hix:∀W:World,Calls Tryz.prog 146 #[.string (s.extract j s.size),.int .u8 10] W λe w'=>e= .returned (.int .i64 (nlAt s j))∧W=w':=λW=>by
    refine(Tryz.strings_IndexByte (s.extract j s.size) 10 W).mono ?_;rintro e w' ⟨rfl,rfl⟩;exact⟨rfl,rfl⟩
   have HIX:=hid hix;clear hix;have hnl:=nlAt_ge s hj;(have h2:((classAt s j)==(2:Int))=true:=by simp[hc2]);have HC2:=hid hc2;by_cases hneg:nlAt s j<0
   ·(have HG:Hid (gapT s (f+1) j=s.size):=by unfold gapT;rw[if_pos hc2,if_pos hneg];rfl);clear hc2
    go_wp2_with(first
     |(go_at_call 145;refine(at_any S s j _ HSC.out (by omega) (by omega) hs).mono ?_;rintro e w' ⟨rfl,n,rfl⟩;simp only[Int.toNat_natCast])
     |(go_at_call 146;refine(HIX.out _).mono ?_;rintro e w' ⟨rfl,rfl⟩))
    go_ret;exact⟨ret_int (by rw[Int.toNat_natCast,<-hg.out,HG.out]),below_drewN' hbel _⟩
   ·have hp:=nlAt_pos hc2 hneg;obtain⟨m,hm⟩:∃m:Nat,nlAt s j=m:=⟨(nlAt s j).toNat,by omega⟩;(have HG:Hid (gapT s (f+1) j=gapT s f (runEnd s [1] (j+m))):=by rw[gapT,if_pos hc2,if_neg hneg,hm,Int.toNat_natCast];rfl);rw[hm]at hnl hp hneg;have HIX':=hid (λW=>hm▸HIX.out W);(have hle:j+m≤s.size:=by omega);have hr:=runEnd_spec s [1] hle;clear hc2 hm HIX
    go_wp2_with(first
     |(go_at_call 145;refine(at_any S s j _ HSC.out (by omega) (by omega) hs).mono ?_;rintro e w' ⟨rfl,n,rfl⟩;simp only[Int.toNat_natCast])
     |(go_at_call 146;refine(HIX'.out _).mono ?_;rintro e w' ⟨rfl,rfl⟩))
    refine(HW.out _ (j+m) hle (HSC.out.drewN _)).mono ?_;rintro e w2 ⟨rfl,n2,rfl⟩;simp only[Int.toNat_natCast];go_wp2;go_roundw;(case rel=>exact⟨_,f,hr.2.1,rfl,by rw[Hid,<-HG.out,hg.out],by omega,below_drewN' ((below_drewN' hbel _).alloc (by simp;exact hbel.size) _) _⟩);case measure=>simp[intOf];omega
  ·(have h2:((classAt s j)==(2:Int))=false:=by simp[hc2]);(have HG:Hid (gapT s (f+1) j=j):=by rw[gapT,if_neg hc2];rfl);clear hc2;go_wp2_with(go_at_call 145;refine(at_any S s j _ HSC.out (by omega) (by omega) hs).mono ?_;rintro e w' ⟨rfl,n,rfl⟩;simp only[Int.toNat_natCast]);go_ret;exact⟨ret_int (by rw[Int.toNat_natCast,<-hg.out,HG.out]),below_drewN' hbel _⟩
end Go.Proofs.YtimmfbnjndndlaaGreatDoor
