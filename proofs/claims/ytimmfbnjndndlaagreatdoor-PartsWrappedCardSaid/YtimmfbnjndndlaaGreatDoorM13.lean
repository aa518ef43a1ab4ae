/- Texts W5. -/
import Derived.Test.YtimmfbnjndndlaaGreatDoorProg
import Derived.Test.YtimmfbnjndndlaaGreatDoorM7
import Derived.Test.YtimmfbnjndndlaaGreatDoorM5
import Derived.WalkSpells
import Derived.WalkLawsBesides
import Derived.Deep.QuietTactic
import Derived.BigQuiet
import Derived.Shelf.Abstract
import Derived.Laws.EntriesVeiled
set_option linter.all false
namespace Go.Proofs.YtimmfbnjndndlaaGreatDoor
open Go.RowKit
set_option maxHeartbeats 2000000
set_option maxRecDepth 100000
theorem Tryz.egSize1:∀args w,(callFunc 149 args).run Tryz.prog w= .ok (.enter 149 args) w:=enters_of Tryz.func149 (by kernel_rfl) rfl
theorem size1_any(Bn Bd Bv:Nat)(h12:Bn≠Bd)(h13:Bn≠Bv)(h23:Bd≠Bv)(Z:Zone)(hzn:¬Z Bn)(hzd:¬Z Bd):∀(m:Nat)(f:Fm),fsize f≤m->∀(cs:List Value)(lv n d:Int)(w:World),FmR Z w f cs->
  0≤n->0≤d->0≤lv->n+fsize f≤4611686018427387904->d≤4611686018427387904->lv+fdepth f≤4611686018427387904->
  One w Bn (.int .i64 n)->One w Bd (.int .i64 d)->One w Bv (.func (.func 149) #[] #[.pointer (some ⟨Bn,0,none⟩),.pointer (some ⟨Bd,0,none⟩),.pointer (some ⟨Bv,0,none⟩)])->
  Calls Tryz.prog 149 #[.agg cs.toArray,.int .i64 lv,.pointer (some ⟨Bn,0,none⟩),.pointer (some ⟨Bd,0,none⟩),.pointer (some ⟨Bv,0,none⟩)] w λe w'=>
   e= .returned (.tuple #[])∧One w' Bn (.int .i64 (n+fsize f))∧One w' Bd (.int .i64 (max d (lv+fdepth f-1)))∧Keeps (λb=>b≠Bn∧b≠Bd) w w':=by
 intro m
 induction m with
 |zero=>intro f hm;have:=fsize_pos f;omega
 |succ m ih=>
 intro f hm cs lv n d w hf hn0 hd0 hl0 hnb hdb hlb hn hd hv;have eg:=Tryz.egSize1;have IH:=hid ih;clear ih;obtain⟨op,nm,cm,nu,kids⟩:=f;unfold FmR at hf;obtain⟨_,_,_,_,A,cap,rfl,hcap,_,hkb,hks⟩:=hf
 have hkl:kids.length≤4611686018427387904:=by
  have h1:=length_le_fsizes kids;have h2:=fsize_eq (.mk op nm cm nu kids);simp only[Fm.kids]at h2;omega
 have hs:=FmsR.seq hks;have HS:=hid hs;clear hks hs;have n1:=hn.cell;have n2:=hn.free;have n3:=hn.lt;have d1:=hd.cell;have d2:=hd.free;have d3:=hd.lt;have v1:=hv.cell;have v3:=hv.lt;go_enter Tryz.func149,Tryz.ntmps149
 go_wp2;go_region;all_goals(go_wp2)
 all_goals
  go_loopw[17] (λi wr=>∃k:Nat,k≤kids.length∧i= .int .i64 k∧One wr Bn (.int .i64 (n+1+fsizes (kids.take k)))∧One wr Bd (.int .i64 (max (max d lv) (lv+fdepths (kids.take k))))∧One wr Bv (.func (.func 149) #[] #[.pointer (some ⟨Bn,0,none⟩),.pointer (some ⟨Bd,0,none⟩),.pointer (some ⟨Bv,0,none⟩)])∧Keeps (λb=>b≠Bn∧b≠Bd) w wr) (λi _=>kids.length-(intOf i).toNat)
  case atStart=>
   refine⟨0,Nat.zero_le _,rfl,?_,?_,.drew (.alloc (.far (p:=⟨Bd,0,none⟩) (.far (p:=⟨Bn,0,none⟩) hv h13.symm _) h23.symm _) _),.drew (.alloc (.setCell (p:=⟨Bd,0,none⟩) (.setCell (p:=⟨Bn,0,none⟩) (.refl _ _) (λ_ h=>h.1 rfl) _) (λ_ h=>h.2 rfl) _) _)⟩
   ·rw[show n+1+((fsizes (kids.take 0):Nat):Int)=n+1 from by simp[fsizes]];exact .drew (.alloc (.far (p:=⟨Bd,0,none⟩) (.set_ hn _) h12 _) _)
   ·first
     |(rw[show max (max d lv) (lv+((fdepths (kids.take 0):Nat):Int))=lv from by simp[fdepths];omega];exact .drew (.alloc (.set_ (.far (p:=⟨Bn,0,none⟩) hd h12.symm _) _) _))
     |(rw[show max (max d lv) (lv+((fdepths (kids.take 0):Nat):Int))=d from by simp[fdepths];omega];exact .drew (.alloc (.set_ (.far (p:=⟨Bn,0,none⟩) hd h12.symm _) _) _))
  case round=>
   clear n1 n2 n3 d1 d2 d3 v1 v3 hn hd hv;obtain⟨k,hk,rfl,hn,hd,hv,hkp⟩:=hrel;by_cases hlt:k<kids.length
   ·obtain⟨b,off,cs,rfl,hz,hcs,hfk⟩:=HS.out.at_ hlt;have hkz:Keeps Z w wr:=hkp.mono (λb _ hb=>⟨λe=>hzn (e▸hb),λe=>hzd (e▸hb)⟩);have hfk':=FmR.keep hkz _ _ hfk;have HF:=hid hfk';obtain⟨A',cap',rfl⟩:=FmR.form hfk;have hsz:=fsizes_take_succ hlt;have hdp:=fdepths_take_succ hlt;have hle:=fsize_lt hlt;have hle2:=fdepth_lt hlt;have ht1:=fsizes_take_le kids k;have ht2:=fdepths_take_le kids k;have ht3:=fsizes_take_le kids (k+1);have e1:=fsize_eq (.mk op nm cm nu kids);have e2:=fdepth_eq (.mk op nm cm nu kids);simp only[Fm.kids]at e1 e2;clear hfk hfk';obtain⟨c0,c1,c2,c3,c4⟩:=five_cells (λj u hu=>hkz.cell (p:=⟨b,off+k*5+j,none⟩) hz (hcs j u hu));clear hcs;have n1:=hn.lt;have d1:=hd.lt;have v1:=hv.cell;have v3:=hv.lt;have HC:=hid (λo=>IH.out kids[k] (by omega) _ (lv+1) _ _ (wr.alloc o) (FmR.keep ((Keeps.refl Z wr).alloc o) _ _ HF.out) (by omega) (by omega) (by omega) (by omega) (by omega) (by omega) (hn.alloc o) (hd.alloc o) (hv.alloc o));have HA:=hid (And.intro hsz hdp);clear hsz hdp e1 e2 hle hle2 ht1 ht2 ht3;generalize kids[k]=g at*;(go_wp2_with fail);refine(HC.out _).mono ?_;rintro e w1 ⟨rfl,hn1,hd1,hk1⟩;go_wp2;go_roundw
    case rel=>
     refine⟨k+1,by omega,by go_num,?_,?_,hv.of_block (((hk1.block Bv (by simp;omega) ⟨h13.symm,h23.symm⟩)).trans (Below.heap_alloc _ _ _ hv.lt)),hkp.trans (((Keeps.refl _ _).alloc _).trans hk1)⟩
     ·have e:=HA.out.1;rw[show n+1+((fsizes (kids.take (k+1)):Nat):Int)=n+1+((fsizes (kids.take k):Nat):Int)+(fsize g:Nat) from by omega];exact hn1
     ·have e:=HA.out.2;rw[show max (max d lv) (lv+((fdepths (kids.take (k+1)):Nat):Int))=max (max (max d lv) (lv+((fdepths (kids.take k):Nat):Int))) (lv+1+((fdepth g:Nat):Int)-1) from by omega];exact hd1
    case measure=>simp[intOf];omega
   ·(obtain rfl:k=kids.length:=by omega);go_wp2;go_end0;refine⟨rfl,?_,?_,hkp⟩
    ·have e1:=fsize_eq (.mk op nm cm nu kids);simp only[Fm.kids]at e1;rw[show n+((fsize (.mk op nm cm nu kids):Nat):Int)=n+1+((fsizes (kids.take kids.length):Nat):Int) from by rw[List.take_length];omega];exact hn
    ·have e2:=fdepth_eq (.mk op nm cm nu kids);simp only[Fm.kids]at e2;rw[show max d (lv+((fdepth (.mk op nm cm nu kids):Nat):Int)-1)=max (max d lv) (lv+((fdepths (kids.take kids.length):Nat):Int)) from by rw[List.take_length];omega];exact hd
theorem size_any(Z:Zone)(f:Fm)(cs:List Value)(w:World)(hf:FmR Z w f cs)(hsz:fsize f≤4000000000000000000)(hz:∀b,Z b->b<w.heap.size):
  Calls Tryz.prog 114 #[.agg cs.toArray] w λe w'=>e= .returned (.tuple #[.int .i64 (fsize f),.int .i64 (fdepth f)])∧Below w.heap.size w w':=by
 have hds:=fdepth_le_fsize f;obtain⟨A,cap,rfl⟩:=FmR.form hf;have eg:=Tryz.egSize1;let W0:=((((w.alloc (.cells #[.int .i64 f.op,.string f.name,.int .i64 f.cmp,.int .i64 f.num,.slice A f.kids.length cap] 47)).alloc (.cells #[.int .i64 0] 3)).alloc (.cells #[.int .i64 0] 3)).alloc (.cells #[.func (.func 149) #[] #[.pointer (some ⟨w.heap.size+1,0,none⟩),.pointer (some ⟨w.heap.size+1+1,0,none⟩),.pointer (some ⟨w.heap.size+1+1+1,0,none⟩)]] 213))
 have HC:=hid (size1_any (w.heap.size+1) (w.heap.size+1+1) (w.heap.size+1+1+1) (by omega) (by omega) (by omega) Z (λh=>by have:=hz _ h;omega) (λh=>by have:=hz _ h;omega) (fsize f) f (Nat.le_refl _) _ 1 0 0 W0
  (FmR.keep (.alloc (.alloc (.alloc (.alloc (.refl _ _) _) _) _) _) _ _ hf) (by omega) (by omega) (by omega) (by omega) (by omega) (by omega)
  (.alloc (.alloc (by simpa using One.new (w.alloc (.cells #[.int .i64 f.op,.string f.name,.int .i64 f.cmp,.int .i64 f.num,.slice A f.kids.length cap] 47)) (.int .i64 0) 3) _) _)
  (.alloc (by simpa using One.new ((w.alloc (.cells #[.int .i64 f.op,.string f.name,.int .i64 f.cmp,.int .i64 f.num,.slice A f.kids.length cap] 47)).alloc (.cells #[.int .i64 0] 3)) (.int .i64 0) 3) _)
  (by
    have:=One.new (((w.alloc (.cells #[.int .i64 f.op,.string f.name,.int .i64 f.cmp,.int .i64 f.num,.slice A f.kids.length cap] 47)).alloc (.cells #[.int .i64 0] 3)).alloc (.cells #[.int .i64 0] 3)) (.func (.func 149) #[] #[.pointer (some ⟨w.heap.size+1,0,none⟩),.pointer (some ⟨w.heap.size+1+1,0,none⟩),.pointer (some ⟨w.heap.size+1+1+1,0,none⟩)]) 213;simp only[World.size_alloc]at this
    exact this))
 have hW:Below w.heap.size w W0:= .alloc (.alloc (.alloc (.alloc (.refl _ _) (Nat.le_refl _) _) (by simp) _) (by simp;omega) _) (by simp;omega) _;have hWs:W0.heap.size=w.heap.size+4:=by simp[W0]
 clear hf;go_enter Tryz.func114,Tryz.ntmps114
 go_wp2_with fail
 refine HC.out.mono ?_;rintro e w1 ⟨rfl,hn1,hd1,hk1⟩;have n1:=hn1.cell;have d1:=hd1.cell;rw[show(0:Int)+((fsize f:Nat):Int)=(fsize f:Nat) from by omega]at n1;rw[show max (0:Int) (1+((fdepth f:Nat):Int)-1)=(fdepth f:Nat) from by omega]at d1;clear hn1 hd1;go_wp2;go_quiet(fail);go_wp2;go_ret2;exact⟨rfl,below_drewN' (hW.trans ⟨hk1.os,hk1.tape,hk1.output,hk1.size,λk hk=>hk1.block k (by omega) (by omega)⟩) _⟩
theorem large_any(Z:Zone)(f:Fm)(cs:List Value)(w:World)(hf:FmR Z w f cs)(hsz:fsize f≤4000000000000000000)(hz:∀b,Z b->b<w.heap.size):
  Calls Tryz.prog 83 #[.agg cs.toArray] w λe w'=>e= .returned (.bool (isLarge f))∧Below w.heap.size w w':=by
 obtain⟨A,cap,rfl⟩:=FmR.form hf;have HC:=hid (λo=>size_any Z f _ (w.alloc o) (FmR.keep (.alloc (.refl _ _) o) _ _ hf) hsz (λb h=>by have:=hz b h;simp;omega));clear hf;go_enter Tryz.func83,Tryz.ntmps83
 go_wp2_with fail
 refine(HC.out _).mono ?_;rintro e w1 ⟨rfl,hb1⟩;dsimp only
 repeat' (first|(go_big_may;fail)|((with_reducible apply wpList_isG);rfl;first|((with_reducible apply wpList_gen);rfl;rfl;rfl;exact NotVar.app;intro bb hbb;(simp only[nr]))|((with_reducible apply wpList_gen2);rfl;rfl;rfl;exact NotVar.app;intro bb hbb;(simp only[nr]))|((with_reducible apply wpList_gconst);rfl;rfl;rfl;simp only[])|((with_reducible apply wpList_gskip);rfl;rfl;(first|exact Or.inl rfl|exact Or.inr rfl);(simp only[nr]))|((with_reducible apply wpList_ggmove);rfl;rfl;rfl;rfl;exact(by constructor);rfl;(simp only[nr]))|((with_reducible apply wpList_gmove);rfl;rfl;rfl;rfl;exact(by constructor);rfl;(simp only[nr]))|((with_reducible apply wpList_isGPick);rfl;first|((with_reducible apply wpList_gpick_and);rfl;rfl;rfl;exact(by constructor);rfl;rfl;rfl;rfl;(simp only[nr]))|((with_reducible apply wpList_gpick_or);rfl;rfl;rfl;exact(by constructor);rfl;rfl;rfl;rfl;(simp only[nr])))|((with_reducible apply wpList_guarded);rfl;rfl;rfl;exact(by constructor);(intro hG;(try simp only[Bool.and_eq_true,Bool.not_eq_true']at hG);(first|subst hG|(obtain⟨h1,h2⟩:=hG;subst h1;subst h2)|(obtain⟨⟨h1,h2⟩,h3⟩:=hG;subst h1;subst h2;subst h3));(try simp only[gv_true,gv_false,Bool.not_true,Bool.not_false,Bool.true_and,Bool.false_and,Bool.and_self]);go_simp;with_reducible rfl);(simp only[nr]))|((with_reducible apply wpList_gsplit);rfl;rfl;rfl;all_goals(intro hb;subst hb;(try simp only[gv_true,gv_false,Bool.not_true,Bool.not_false,Bool.true_and,Bool.false_and,Bool.and_self])))|((with_reducible apply wpList_gsplit2);rfl;rfl;rfl;all_goals(intro hb;(first|subst hb|((try simp only[Bool.and_eq_true,Bool.not_eq_true']at hb);obtain⟨h1,h2⟩:=hb;subst h1;subst h2));(try simp only[gv_true,gv_false,Bool.not_true,Bool.not_false,Bool.true_and,Bool.false_and,Bool.and_self]))))|((with_reducible apply wpList_isPick);rfl;rfl;first|((with_reducible apply wpList_pick_t);rfl;rfl;rfl;rfl;(simp only[nr]))|((with_reducible apply wpList_pick_f);rfl;rfl;rfl;rfl;(simp only[nr]))|((with_reducible apply wpList_pick_and);rfl;rfl;rfl;rfl;rfl;(simp only[nr]))|((with_reducible apply wpList_pick_or);rfl;rfl;rfl;rfl;rfl;(simp only[nr])))|go_values|go_guarded|go_step|go_upon|go_back|dsimp only)
 go_ret;refine⟨ret_bool ?_,(below1 w _).trans (hb1.mono (by simp))⟩;simp only[Hid]at*
 subst_vars
 unfold isLarge;congr 1
 ·rw[Bool.eq_iff_iff];simp only[decide_eq_true_eq];omega
 ·rw[Bool.eq_iff_iff];simp only[decide_eq_true_eq];omega
def LookOk(P:Program)(g:FuncId)(lb:Array Value)(Z:Zone)(w:World)(L:Fm->Int):Prop:=
 ∀(x:Fm) cs W,FmR Z W x cs->Below w.heap.size w W->Calls P g (#[.agg cs.toArray]++lb) W λe W'=>e= .returned (.int .i64 (L x))∧Below W.heap.size W W'
theorem first_any(g:FuncId)(lb:Array Value)(eg:∀args w,(callFunc g args).run Tryz.prog w= .ok (.enter g args) w)(Z:Zone)(L:Fm->Int)(w0:World)(hL:LookOk Tryz.prog g lb Z w0 L):∀(m:Nat)(f:Fm),fsize f≤m->∀(cs:List Value)(w:World),FmR Z w f cs->Below w0.heap.size w0 w-> 
  Calls Tryz.prog 84 #[.agg cs.toArray,.func (.func g) #[] lb] w λe w'=>e= .returned (.int .i64 (firstErr L f))∧Below w.heap.size w w':=by
 have HL:=hid hL;clear hL;intro m
 induction m with
 |zero=>intro f hm;have:=fsize_pos f;omega
 |succ m ih=>
 intro f hm cs w hf hw;have IH:=hid ih;clear ih
 have hkids:f.kids.length*56≤140737488355328:=by
  obtain⟨op,nm,cm,nu,kids⟩:=f;unfold FmR at hf;obtain⟨_,_,_,_,A,cap,e,hcap,_,hkb,hks⟩:=hf;exact hkb
 have hseq:∀A cap,cs=[.int .i64 f.op,.string f.name,.int .i64 f.cmp,.int .i64 f.num,.slice A f.kids.length cap]->SeqR (λcs f=>FmR Z w f cs) 5 Z w f.kids A:=by
  intro A cap e;obtain⟨op,nm,cm,nu,kids⟩:=f;unfold FmR at hf;obtain⟨_,_,_,_,A',cap',e',hcap,_,hkb,hks⟩:=hf;rw[e]at e';simp only[Fm.kids]at e';injection e' with _ e';injection e' with _ e';injection e' with _ e';injection e' with _ e';injection e' with e';injection e' with e';subst e';exact FmsR.seq hks
 obtain⟨A,cap,rfl⟩:=FmR.form hf;have HS:=hid (hseq A cap rfl);clear hseq;have HC:=hid (λo=>HL.out f _ (w.alloc o) (FmR.keep (.alloc (.refl _ _) o) _ _ hf) (hw.alloc hw.size o));clear hf;have HLT:=hid (λ(k:Nat)(hk:k<f.kids.length)=>fsize_kid hk);generalize hF:L f=lf at*;have HF:=hid hF;clear hF;go_enter Tryz.func84,Tryz.ntmps84
 go_wp2_with fail
 refine(HC.out _).mono ?_;rintro e w1 ⟨rfl,hb1⟩;dsimp only;obtain⟨hce,hfr⟩:=bcell hb1;have hbw:Below w.heap.size w w1:=(below1 w _).trans (hb1.mono (by simp));go_wp2;go_loopw[5,14] (λe i wr=>∃k:Nat,k≤f.kids.length∧i= .int .i64 k∧e= .int .i64 (errTo L f k)∧Below w.heap.size w wr) (λ_ i _=>f.kids.length-(intOf i).toNat);case atStart=>exact⟨0,Nat.zero_le _,rfl,by rw[errTo_zero,HF.out],hbw⟩
 case round=>
  clear hb1 hce hfr hbw;obtain⟨k,hk,rfl,rfl,hbel⟩:=hrel;by_cases hlt:k<f.kids.length
  ·by_cases he:errTo L f k=0
   ·obtain⟨b,off,cs,rfl,hz,hcs,hfk⟩:=HS.out.at_ hlt;have hkz:Keeps Z w wr:= .of_below hbel;have hfk':=FmR.keep hkz _ _ hfk;obtain⟨A',cap',rfl⟩:=FmR.form hfk;obtain⟨c0,c1,c2,c3,c4⟩:=five_cells (λj u hu=>hkz.cell (p:=⟨b,off+k*5+j,none⟩) hz (hcs j u hu));have HN:=hid (errTo_succ L hlt he);have HC:=hid (λo=>IH.out f.kids[k] (by have:=HLT.out k hlt;omega) _ (wr.alloc o) (FmR.keep ((Keeps.refl Z wr).alloc o) _ _ hfk') ((hw.trans (hbel.mono hw.size)).alloc (Nat.le_trans hw.size hbel.size) o));clear hcs hfk hfk' hkz;generalize f.kids[k]=g at*;(have he0:((errTo L f k)!=(0:Int))=false:=by simp[he]);have HE:=hid he;clear he;(go_wp2_with fail);refine(HC.out _).mono ?_;rintro e w2 ⟨rfl,hb2⟩;dsimp only;go_wp2;go_roundw;(case rel=>exact⟨k+1,by omega,by go_num,by rw[HN.out],(hbel.alloc hbel.size _).trans (hb2.mono (by simp;have:=hbel.size;omega))⟩);case measure=>simp[intOf];omega
   ·obtain⟨b,off,cs,rfl,hz,hcs,hfk⟩:=HS.out.at_ hlt;have hkz:Keeps Z w wr:= .of_below hbel;obtain⟨A',cap',rfl⟩:=FmR.form hfk;obtain⟨c0,c1,c2,c3,c4⟩:=five_cells (λj u hu=>hkz.cell (p:=⟨b,off+k*5+j,none⟩) hz (hcs j u hu));clear hcs hfk hkz;generalize f.kids[k]=g at*;have HN:=hid (errTo_stop L he);(have he0:((errTo L f k)!=(0:Int))=true:=by simp[he]);clear he;go_wp2;go_ret;exact⟨ret_int HN.out.symm,hbel.alloc hbel.size _⟩
  ·(obtain rfl:k=f.kids.length:=by omega);have HN:=hid (errTo_all L f);go_wp2;go_ret;exact⟨ret_int HN.out,hbel⟩
end Go.Proofs.YtimmfbnjndndlaaGreatDoor
