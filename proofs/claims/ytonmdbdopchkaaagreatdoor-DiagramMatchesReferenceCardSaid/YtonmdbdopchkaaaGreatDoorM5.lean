/- Texts W5. -/
import Derived.Test.YtonmdbdopchkaaaGreatDoorProg
import Derived.Test.YtonmdbdopchkaaaGreatDoorM2
import Derived.Test.YtonmdbdopchkaaaGreatDoorM3
import Derived.WalkSpells
import Derived.WalkLawsBesides
import Derived.Shelf.Abstract
import Derived.Laws.EntriesVeiled
set_option linter.all false
namespace Go.Proofs.YtonmdbdopchkaaaGreatDoor
open Go.RowKit
set_option maxHeartbeats 2000000
set_option maxRecDepth 100000
theorem Tryz.egSize1:∀args w,(callFunc 123 args).run Tryz.prog w= .ok (.enter 123 args) w:=enters_of Tryz.func123 (by kernel_rfl) rfl
theorem zSM(Bn Bd Bv:Nat)(h12:Bn≠Bd)(h13:Bn≠Bv)(h23:Bd≠Bv)(Z:zD)(hzn:¬Z Bn)(hzd:¬Z Bd):∀(m:Nat)(f:Fm),zJ f≤m->∀(cs:List Value)(lv n d:Int)(w:World),FmR Z w f cs->
  0≤n->0≤d->0≤lv->n+zJ f≤4611686018427387904->d≤4611686018427387904->lv+zAx f≤4611686018427387904->
  One w Bn (.int .i64 n)->One w Bd (.int .i64 d)->One w Bv (.func (.func 123) #[] #[.pointer (some ⟨Bn,0,none⟩),.pointer (some ⟨Bd,0,none⟩),.pointer (some ⟨Bv,0,none⟩)])->
  Calls Tryz.prog 123 #[.agg cs.toArray,.int .i64 lv,.pointer (some ⟨Bn,0,none⟩),.pointer (some ⟨Bd,0,none⟩),.pointer (some ⟨Bv,0,none⟩)] w λe w'=>
   e= .returned (.tuple #[])∧One w' Bn (.int .i64 (n+zJ f))∧One w' Bd (.int .i64 (max d (lv+zAx f-1)))∧zA (λb=>b≠Bn∧b≠Bd) w w':=by
 intro m
 induction m with
 |zero=>intro f hm;have:=zBE f;omega
 |succ m ih=>
 intro f hm cs lv n d w hf hn0 hd0 hl0 hnb hdb hlb hn hd hv;have eg:=Tryz.egSize1;have IH:=hid ih;clear ih;obtain⟨op,nm,cm,nu,kids⟩:=f;unfold FmR at hf;obtain⟨_,_,_,_,A,cap,rfl,hcap,_,hkb,hks⟩:=hf
 have hkl:kids.length≤4611686018427387904:=by
  have h1:=zA8 kids;have h2:=zBM (.mk op nm cm nu kids);simp only[Fm.kids]at h2;omega
 have hs:=zt.seq hks;have HS:=hid hs;clear hks hs;have n1:=hn.cell;have n2:=hn.free;have n3:=hn.lt;have d1:=hd.cell;have d2:=hd.free;have d3:=hd.lt;have v1:=hv.cell;have v3:=hv.lt;go_enter Tryz.func123,Tryz.ntmps123
 go_wp2;go_region;all_goals(go_wp2)
 all_goals
  go_loopw[17] (λi wr=>∃k:Nat,k≤kids.length∧i= .int .i64 k∧One wr Bn (.int .i64 (n+1+zX (kids.take k)))∧One wr Bd (.int .i64 (max (max d lv) (lv+zz (kids.take k))))∧One wr Bv (.func (.func 123) #[] #[.pointer (some ⟨Bn,0,none⟩),.pointer (some ⟨Bd,0,none⟩),.pointer (some ⟨Bv,0,none⟩)])∧zA (λb=>b≠Bn∧b≠Bd) w wr) (λi _=>kids.length-(intOf i).toNat)
  case atStart=>
   refine⟨0,Nat.zero_le _,rfl,?_,?_,.drew (.alloc (.far (p:=⟨Bd,0,none⟩) (.far (p:=⟨Bn,0,none⟩) hv h13.symm _) h23.symm _) _),.drew (.alloc (.setCell (p:=⟨Bd,0,none⟩) (.setCell (p:=⟨Bn,0,none⟩) (.refl _ _) (λ_ h=>h.1 rfl) _) (λ_ h=>h.2 rfl) _) _)⟩
   ·rw[show n+1+((zX (kids.take 0):Nat):Int)=n+1 from by simp[zX]];exact .drew (.alloc (.far (p:=⟨Bd,0,none⟩) (.set_ hn _) h12 _) _)
   ·first
     |(rw[show max (max d lv) (lv+((zz (kids.take 0):Nat):Int))=lv from by simp[zz];omega];exact .drew (.alloc (.set_ (.far (p:=⟨Bn,0,none⟩) hd h12.symm _) _) _))
     |(rw[show max (max d lv) (lv+((zz (kids.take 0):Nat):Int))=d from by simp[zz];omega];exact .drew (.alloc (.set_ (.far (p:=⟨Bn,0,none⟩) hd h12.symm _) _) _))
  case round=>
   clear n1 n2 n3 d1 d2 d3 v1 v3 hn hd hv;obtain⟨k,hk,rfl,hn,hd,hv,hkp⟩:=hrel;by_cases hlt:k<kids.length
   ·obtain⟨b,off,cs,rfl,hz,hcs,hfk⟩:=HS.out.at_ hlt;have hkz:zA Z w wr:=hkp.mono (λb _ hb=>⟨λe=>hzn (e▸hb),λe=>hzd (e▸hb)⟩);have hfk':=FmR.keep hkz _ _ hfk;have HF:=hid hfk';obtain⟨A',cap',rfl⟩:=FmR.form hfk;have hsz:=zAL hlt;have hdp:=zFf hlt;have hle:=zAY hlt;have hle2:=zR8 hlt;have ht1:=zAU kids k;have ht2:=zG9 kids k;have ht3:=zAU kids (k+1);have e1:=zBM (.mk op nm cm nu kids);have e2:=zIN (.mk op nm cm nu kids);simp only[Fm.kids]at e1 e2;clear hfk hfk';obtain⟨c0,c1,c2,c3,c4⟩:=zp (λj u hu=>hkz.cell (p:=⟨b,off+k*5+j,none⟩) hz (hcs j u hu));clear hcs;have n1:=hn.lt;have d1:=hd.lt;have v1:=hv.cell;have v3:=hv.lt;have HC:=hid (λo=>IH.out kids[k] (by omega) _ (lv+1) _ _ (wr.alloc o) (FmR.keep ((zA.refl Z wr).alloc o) _ _ HF.out) (by omega) (by omega) (by omega) (by omega) (by omega) (by omega) (hn.alloc o) (hd.alloc o) (hv.alloc o));have HA:=hid (And.intro hsz hdp);clear hsz hdp e1 e2 hle hle2 ht1 ht2 ht3;generalize kids[k]=g at*;(go_wp2_with fail);refine(HC.out _).mono ?_;rintro e w1 ⟨rfl,hn1,hd1,hk1⟩;go_wp2;go_roundw
    case rel=>
     refine⟨k+1,by omega,by go_num,?_,?_,hv.of_block (((hk1.block Bv (by simp;omega) ⟨h13.symm,h23.symm⟩)).trans (Below.heap_alloc _ _ _ hv.lt)),hkp.trans (((zA.refl _ _).alloc _).trans hk1)⟩
     ·have e:=HA.out.1;rw[show n+1+((zX (kids.take (k+1)):Nat):Int)=n+1+((zX (kids.take k):Nat):Int)+(zJ g:Nat) from by omega];exact hn1
     ·have e:=HA.out.2;rw[show max (max d lv) (lv+((zz (kids.take (k+1)):Nat):Int))=max (max (max d lv) (lv+((zz (kids.take k):Nat):Int))) (lv+1+((zAx g:Nat):Int)-1) from by omega];exact hd1
    case measure=>simp[intOf];omega
   ·(obtain rfl:k=kids.length:=by omega);go_wp2;go_end0;refine⟨rfl,?_,?_,hkp⟩
    ·have e1:=zBM (.mk op nm cm nu kids);simp only[Fm.kids]at e1;rw[show n+((zJ (.mk op nm cm nu kids):Nat):Int)=n+1+((zX (kids.take kids.length):Nat):Int) from by rw[List.take_length];omega];exact hn
    ·have e2:=zIN (.mk op nm cm nu kids);simp only[Fm.kids]at e2;rw[show max d (lv+((zAx (.mk op nm cm nu kids):Nat):Int)-1)=max (max d lv) (lv+((zz (kids.take kids.length):Nat):Int)) from by rw[List.take_length];omega];exact hd
theorem zTS(Z:zD)(f:Fm)(cs:List Value)(w:World)(hf:FmR Z w f cs)(hsz:zJ f≤4000000000000000000)(hz:∀b,Z b->b<w.heap.size):
  Calls Tryz.prog 100 #[.agg cs.toArray] w λe w'=>e= .returned (.tuple #[.int .i64 (zJ f),.int .i64 (zAx f)])∧Below w.heap.size w w':=by
 have hds:=zGa f;obtain⟨A,cap,rfl⟩:=FmR.form hf;have eg:=Tryz.egSize1;let W0:=((((w.alloc (.cells #[.int .i64 f.op,.string f.name,.int .i64 f.cmp,.int .i64 f.num,.slice A f.kids.length cap] 24)).alloc (.cells #[.int .i64 0] 3)).alloc (.cells #[.int .i64 0] 3)).alloc (.cells #[.func (.func 123) #[] #[.pointer (some ⟨w.heap.size+1,0,none⟩),.pointer (some ⟨w.heap.size+1+1,0,none⟩),.pointer (some ⟨w.heap.size+1+1+1,0,none⟩)]] 156))
 have HC:=hid (zSM (w.heap.size+1) (w.heap.size+1+1) (w.heap.size+1+1+1) (by omega) (by omega) (by omega) Z (λh=>by have:=hz _ h;omega) (λh=>by have:=hz _ h;omega) (zJ f) f (Nat.le_refl _) _ 1 0 0 W0
  (FmR.keep (.alloc (.alloc (.alloc (.alloc (.refl _ _) _) _) _) _) _ _ hf) (by omega) (by omega) (by omega) (by omega) (by omega) (by omega)
  (.alloc (.alloc (by simpa using One.new (w.alloc (.cells #[.int .i64 f.op,.string f.name,.int .i64 f.cmp,.int .i64 f.num,.slice A f.kids.length cap] 24)) (.int .i64 0) 3) _) _)
  (.alloc (by simpa using One.new ((w.alloc (.cells #[.int .i64 f.op,.string f.name,.int .i64 f.cmp,.int .i64 f.num,.slice A f.kids.length cap] 24)).alloc (.cells #[.int .i64 0] 3)) (.int .i64 0) 3) _)
  (by
    have:=One.new (((w.alloc (.cells #[.int .i64 f.op,.string f.name,.int .i64 f.cmp,.int .i64 f.num,.slice A f.kids.length cap] 24)).alloc (.cells #[.int .i64 0] 3)).alloc (.cells #[.int .i64 0] 3)) (.func (.func 123) #[] #[.pointer (some ⟨w.heap.size+1,0,none⟩),.pointer (some ⟨w.heap.size+1+1,0,none⟩),.pointer (some ⟨w.heap.size+1+1+1,0,none⟩)]) 156;simp only[World.size_alloc]at this
    exact this))
 have hW:Below w.heap.size w W0:= .alloc (.alloc (.alloc (.alloc (.refl _ _) (Nat.le_refl _) _) (by simp) _) (by simp;omega) _) (by simp;omega) _;have hWs:W0.heap.size=w.heap.size+4:=by simp[W0]
 clear hf;go_enter Tryz.func100,Tryz.ntmps100
 go_wp2_with fail
 refine HC.out.mono ?_;rintro e w1 ⟨rfl,hn1,hd1,hk1⟩;have n1:=hn1.cell;have d1:=hd1.cell;rw[show(0:Int)+((zJ f:Nat):Int)=(zJ f:Nat) from by omega]at n1;rw[show max (0:Int) (1+((zAx f:Nat):Int)-1)=(zAx f:Nat) from by omega]at d1;clear hn1 hd1;go_wp2;go_quiet(fail);go_wp2;go_ret2;exact⟨rfl,below_drewN' (hW.trans ⟨hk1.os,hk1.tape,hk1.output,hk1.size,λk hk=>hk1.block k (by omega) (by omega)⟩) _⟩
theorem zSN(Z:zD)(f:Fm)(cs:List Value)(w:World)(hf:FmR Z w f cs)(hsz:zJ f≤4000000000000000000)(hz:∀b,Z b->b<w.heap.size):
  Calls Tryz.prog 68 #[.agg cs.toArray] w λe w'=>e= .returned (.bool (zCD f))∧Below w.heap.size w w':=by
 obtain⟨A,cap,rfl⟩:=FmR.form hf;have HC:=hid (λo=>zTS Z f _ (w.alloc o) (FmR.keep (.alloc (.refl _ _) o) _ _ hf) hsz (λb h=>by have:=hz b h;simp;omega));clear hf;go_enter Tryz.func68,Tryz.ntmps68
 go_wp2_with fail
 refine(HC.out _).mono ?_;rintro e w1 ⟨rfl,hb1⟩;dsimp only
 repeat' (first|(go_big_may;fail)|((with_reducible apply zCN);rfl;first|((with_reducible apply zCM);rfl;rfl;rfl;exact zBZ.app;intro bb hbb;(simp only[nr]))|((with_reducible apply zBx);rfl;rfl;rfl;exact zBZ.app;intro bb hbb;(simp only[nr]))|((with_reducible apply zB8);rfl;rfl;rfl;simp only[])|((with_reducible apply zBj);rfl;rfl;(first|exact Or.inl rfl|exact Or.inr rfl);(simp only[nr]))|((with_reducible apply zB7);rfl;rfl;rfl;rfl;exact(by constructor);rfl;(simp only[nr]))|((with_reducible apply zB0);rfl;rfl;rfl;rfl;exact(by constructor);rfl;(simp only[nr]))|((with_reducible apply zBS);rfl;first|((with_reducible apply zAs);rfl;rfl;rfl;exact(by constructor);rfl;rfl;rfl;rfl;(simp only[nr]))|((with_reducible apply zBG);rfl;rfl;rfl;exact(by constructor);rfl;rfl;rfl;rfl;(simp only[nr])))|((with_reducible apply zAb);rfl;rfl;rfl;exact(by constructor);(intro hG;(try simp only[Bool.and_eq_true,Bool.not_eq_true']at hG);(first|subst hG|(obtain⟨h1,h2⟩:=hG;subst h1;subst h2)|(obtain⟨⟨h1,h2⟩,h3⟩:=hG;subst h1;subst h2;subst h3));(try simp only[zA2,zAM,Bool.not_true,Bool.not_false,Bool.true_and,Bool.false_and,Bool.and_self]);go_simp;with_reducible rfl);(simp only[nr]))|((with_reducible apply zB5);rfl;rfl;rfl;all_goals(intro hb;subst hb;(try simp only[zA2,zAM,Bool.not_true,Bool.not_false,Bool.true_and,Bool.false_and,Bool.and_self])))|((with_reducible apply zBR);rfl;rfl;rfl;all_goals(intro hb;(first|subst hb|((try simp only[Bool.and_eq_true,Bool.not_eq_true']at hb);obtain⟨h1,h2⟩:=hb;subst h1;subst h2));(try simp only[zA2,zAM,Bool.not_true,Bool.not_false,Bool.true_and,Bool.false_and,Bool.and_self]))))|((with_reducible apply zB6);rfl;rfl;first|((with_reducible apply zB3);rfl;rfl;rfl;rfl;(simp only[nr]))|((with_reducible apply zB4);rfl;rfl;rfl;rfl;(simp only[nr]))|((with_reducible apply zBF);rfl;rfl;rfl;rfl;rfl;(simp only[nr]))|((with_reducible apply zBQ);rfl;rfl;rfl;rfl;rfl;(simp only[nr])))|go_values|go_guarded|go_step|go_upon|go_back|dsimp only)
 go_ret;refine⟨zI ?_,(zE w _).trans (hb1.mono (by simp))⟩;simp only[Hid]at*
 subst_vars
 unfold zCD;congr 1
 ·rw[Bool.eq_iff_iff];simp only[decide_eq_true_eq];omega
 ·rw[Bool.eq_iff_iff];simp only[decide_eq_true_eq];omega
def zUm(P:Program)(g:FuncId)(lb:Array Value)(Z:zD)(w:World)(L:Fm->Int):Prop:=
 ∀(x:Fm) cs W,FmR Z W x cs->Below w.heap.size w W->Calls P g (#[.agg cs.toArray]++lb) W λe W'=>e= .returned (.int .i64 (L x))∧Below W.heap.size W W'
theorem zSO(g:FuncId)(lb:Array Value)(eg:∀args w,(callFunc g args).run Tryz.prog w= .ok (.enter g args) w)(Z:zD)(L:Fm->Int)(w0:World)(hL:zUm Tryz.prog g lb Z w0 L):∀(m:Nat)(f:Fm),zJ f≤m->∀(cs:List Value)(w:World),FmR Z w f cs->Below w0.heap.size w0 w-> 
  Calls Tryz.prog 69 #[.agg cs.toArray,.func (.func g) #[] lb] w λe w'=>e= .returned (.int .i64 (zq L f))∧Below w.heap.size w w':=by
 have HL:=hid hL;clear hL;intro m
 induction m with
 |zero=>intro f hm;have:=zBE f;omega
 |succ m ih=>
 intro f hm cs w hf hw;have IH:=hid ih;clear ih
 have hkids:f.kids.length*56≤140737488355328:=by
  obtain⟨op,nm,cm,nu,kids⟩:=f;unfold FmR at hf;obtain⟨_,_,_,_,A,cap,e,hcap,_,hkb,hks⟩:=hf;exact hkb
 have hseq:∀A cap,cs=[.int .i64 f.op,.string f.name,.int .i64 f.cmp,.int .i64 f.num,.slice A f.kids.length cap]->zAT (λcs f=>FmR Z w f cs) 5 Z w f.kids A:=by
  intro A cap e;obtain⟨op,nm,cm,nu,kids⟩:=f;unfold FmR at hf;obtain⟨_,_,_,_,A',cap',e',hcap,_,hkb,hks⟩:=hf;rw[e]at e';simp only[Fm.kids]at e';injection e' with _ e';injection e' with _ e';injection e' with _ e';injection e' with _ e';injection e' with e';injection e' with e';subst e';exact zt.seq hks
 obtain⟨A,cap,rfl⟩:=FmR.form hf;have HS:=hid (hseq A cap rfl);clear hseq;have HC:=hid (λo=>HL.out f _ (w.alloc o) (FmR.keep (.alloc (.refl _ _) o) _ _ hf) (hw.alloc hw.size o));clear hf;have HLT:=hid (λ(k:Nat)(hk:k<f.kids.length)=>zIO hk);generalize hF:L f=lf at*;have HF:=hid hF;clear hF;go_enter Tryz.func69,Tryz.ntmps69
 go_wp2_with fail
 refine(HC.out _).mono ?_;rintro e w1 ⟨rfl,hb1⟩;dsimp only;obtain⟨hce,hfr⟩:=zKU hb1;have hbw:Below w.heap.size w w1:=(zE w _).trans (hb1.mono (by simp));go_wp2;go_loopw[5,14] (λe i wr=>∃k:Nat,k≤f.kids.length∧i= .int .i64 k∧e= .int .i64 (zD3 L f k)∧Below w.heap.size w wr) (λ_ i _=>f.kids.length-(intOf i).toNat);case atStart=>exact⟨0,Nat.zero_le _,rfl,by rw[zQT,HF.out],hbw⟩
 case round=>
  clear hb1 hce hfr hbw;obtain⟨k,hk,rfl,rfl,hbel⟩:=hrel;by_cases hlt:k<f.kids.length
  ·by_cases he:zD3 L f k=0
   ·obtain⟨b,off,cs,rfl,hz,hcs,hfk⟩:=HS.out.at_ hlt;have hkz:zA Z w wr:= .of_below hbel;have hfk':=FmR.keep hkz _ _ hfk;obtain⟨A',cap',rfl⟩:=FmR.form hfk;obtain⟨c0,c1,c2,c3,c4⟩:=zp (λj u hu=>hkz.cell (p:=⟨b,off+k*5+j,none⟩) hz (hcs j u hu));have HN:=hid (zQU L hlt he);have HC:=hid (λo=>IH.out f.kids[k] (by have:=HLT.out k hlt;omega) _ (wr.alloc o) (FmR.keep ((zA.refl Z wr).alloc o) _ _ hfk') ((hw.trans (hbel.mono hw.size)).alloc (Nat.le_trans hw.size hbel.size) o));clear hcs hfk hfk' hkz;generalize f.kids[k]=g at*;(have he0:((zD3 L f k)!=(0:Int))=false:=by simp[he]);have HE:=hid he;clear he;(go_wp2_with fail);refine(HC.out _).mono ?_;rintro e w2 ⟨rfl,hb2⟩;dsimp only;go_wp2;go_roundw;(case rel=>exact⟨k+1,by omega,by go_num,by rw[HN.out],(hbel.alloc hbel.size _).trans (hb2.mono (by simp;have:=hbel.size;omega))⟩);case measure=>simp[intOf];omega
   ·obtain⟨b,off,cs,rfl,hz,hcs,hfk⟩:=HS.out.at_ hlt;have hkz:zA Z w wr:= .of_below hbel;obtain⟨A',cap',rfl⟩:=FmR.form hfk;obtain⟨c0,c1,c2,c3,c4⟩:=zp (λj u hu=>hkz.cell (p:=⟨b,off+k*5+j,none⟩) hz (hcs j u hu));clear hcs hfk hkz;generalize f.kids[k]=g at*;have HN:=hid (zQV L he);(have he0:((zD3 L f k)!=(0:Int))=true:=by simp[he]);clear he;go_wp2;go_ret;exact⟨zAD HN.out.symm,hbel.alloc hbel.size _⟩
  ·(obtain rfl:k=f.kids.length:=by omega);have HN:=hid (zR9 L f);go_wp2;go_ret;exact⟨zAD HN.out,hbel⟩
end Go.Proofs.YtonmdbdopchkaaaGreatDoor
