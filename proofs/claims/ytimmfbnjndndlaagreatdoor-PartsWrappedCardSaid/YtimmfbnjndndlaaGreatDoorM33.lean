/- Texts W14 W15 W16 W17 W18 PP. -/
import Derived.Test.YtimmfbnjndndlaaGreatDoorM32
import Derived.Test.YtimmfbnjndndlaaGreatDoorM30
import Derived.Test.YtimmfbnjndndlaaGreatDoorM13
import Derived.Test.YtimmfbnjndndlaaGreatDoorM19
import Derived.Test.YtimmfbnjndndlaaGreatDoorM11
import Derived.Deep.RegionWith
set_option linter.all false
namespace Go.Proofs.YtimmfbnjndndlaaGreatDoor
open Go.RowKit
set_option maxHeartbeats 2000000
set_option maxRecDepth 100000
theorem identS_no{s:ByteArray}(h:(lexS s).2.1≠0∨(lexS s).1.length ≠1):identS s=false:=by
 unfold identS;split
 ·rename_i heq;rw[heq]at h;simp at h
 ·rfl
theorem identS_one{s:ByteArray}{t:Tok}{e:Int}(h:lexS s=([t],0,e)):identS s=(t.kind==1&&decide (t.text=s)):=by
 unfold identS;rw[h];rfl
theorem identifier_any(s:ByteArray)(w:World)(hs:s.size≤140737488355328):
  Calls Tryz.prog 115 #[.string s] w λe w'=>e= .returned (.bool (identS s))∧Below w.heap.size w w':=by
 have HL:=hid (lex_any s w hs);have HR:=hid (@identS_no s);have HO:=hid (λt e=> @identS_one s t e);go_enter Tryz.func115,Tryz.ntmps115
 go_wp2_with fail
 refine HL.out.mono ?_;unfold LexPost;rintro e w1 ⟨v,rfl,hown,hb⟩;obtain⟨ts,n,ee⟩:∃x,x=lexS s:=⟨_,rfl⟩;generalize hl:lexS s=L at*;obtain⟨ts,n,ee⟩:=L;dsimp only at*;obtain⟨A,cap,rfl,hcap,hsm,hown2⟩:=Row.of_own hown (by decide);by_cases hn:n=0
 ·subst hn;by_cases h1:ts.length=1
  ·obtain⟨t,rfl⟩:∃t,ts=[t]:=by
    cases ts with
    |nil=>simp at h1
    |cons t r=>cases r with
     |nil=>exact⟨t,rfl⟩
     |cons _ _=>simp at h1
   have HI:=hid (HO.out _ _ rfl);obtain⟨b,off,rfl,hz,hcs⟩:=hown2 (by simp[Tok.cells]);obtain⟨c0,c1,c2,c3⟩:=four_cells (λj u hu=>hcs j u (by simpa[Tok.cells]using hu));clear hcs hl hown2 hown;simp only[List.length_cons,List.length_nil,Nat.zero_add]at*;go_wp2;all_goals(go_ret;exact⟨ret_bool (by rw[HI.out];first|(simp_all;done)|(rw[toList_beq];simp_all)),hb⟩)
  ·have HI:=hid (HR.out (.inr h1));(have h1':((ts.length:Int)==1)=false:=by simp;omega);clear h1 hl;go_wp2;go_ret;exact⟨ret_bool (by rw[HI.out]),hb⟩
 ·have HI:=hid (HR.out (.inl hn));have hn':(n==0)=false:=by simp[hn]
  clear hl;go_wp2;go_ret;exact⟨ret_bool (by rw[HI.out]),hb⟩
def keys5:List ByteArray:=[⟨#[111,114]⟩,⟨#[97,110,100]⟩,⟨#[110,111,116]⟩,⟨#[116,114,117,101]⟩,⟨#[102,97,108,115,101]⟩]
def keyS(s:ByteArray):Bool:=Lib.containsS keys5 s
theorem key_any(s:ByteArray)(w:World):
  Calls Tryz.prog 116 #[.string s] w λe w'=>e= .returned (.bool (keyS s))∧Below w.heap.size w w':=by
 let W:=w.alloc (.cells #[.string ⟨#[111,114]⟩,.string ⟨#[97,110,100]⟩,.string ⟨#[110,111,116]⟩,.string ⟨#[116,114,117,101]⟩,.string ⟨#[102,97,108,115,101]⟩] 9)
 have HC:=hid (Tryz.slices_Contains_string w.heap.size 0 5 5 keys5 s W (by decide) (by decide) (λj hj=>by
  have:j<5:=hj
  match j,this with
  |0,_=>simp[W,keys5]
  |1,_=>simp[W,keys5]
  |2,_=>simp[W,keys5]
  |3,_=>simp[W,keys5]
  |4,_=>simp[W,keys5]))
 go_enter Tryz.func116,Tryz.ntmps116
 go_wp2_with fail
 refine HC.out.mono ?_;rintro e w1 ⟨rfl,rfl⟩;go_wp2;go_ret;exact⟨rfl,(Below.refl _ _).alloc (Nat.le_refl _) _⟩
def formedS(f:Fm):Bool:=
 if f.op=3 then decide (f.kids.length=0)&&decide (1≤f.cmp)&&decide (f.cmp≤6)&&identS f.name&& !keyS f.name
 else if f.name≠⟨#[]⟩∨f.cmp≠0∨f.num≠0 then false
 else if f.op=1∨f.op=2 then decide (f.kids.length=0)
 else if f.op=4 then decide (f.kids.length=1)
 else(decide (f.op=5)||decide (f.op=6))&&decide (2≤f.kids.length)
theorem formedS_test{f:Fm}(h:f.op=3):formedS f=(decide (f.kids.length=0)&&decide (1≤f.cmp)&&decide (f.cmp≤6)&&identS f.name&& !keyS f.name):=if_pos h
theorem formedS_tail{f:Fm}(h:f.op≠3):formedS f= 
 if f.name≠⟨#[]⟩∨f.cmp≠0∨f.num≠0 then false
 else if f.op=1∨f.op=2 then decide (f.kids.length=0)
 else if f.op=4 then decide (f.kids.length=1)
 else(decide (f.op=5)||decide (f.op=6))&&decide (2≤f.kids.length):=by
 unfold formedS;rw[if_neg h]
theorem isEmpty_dec(s:ByteArray):s.toList.isEmpty=decide (s=⟨#[]⟩):=by
 rw[<-toList_beq];have:(⟨#[]⟩:ByteArray).toList =[]:=by rw[ByteArray.toList_eq]
 rw[this];cases s.toList<;>rfl
theorem formed_any(Z:Zone)(f:Fm)(cs:List Value)(w:World)(hf:FmR Z w f cs):
  Calls Tryz.prog 86 #[.agg cs.toArray] w λe w'=>e= .returned (.bool (formedS f))∧Below w.heap.size w w':=by
 have hnm:f.name.size≤140737488355328:=by cases f;unfold FmR at hf;exact hf.2.1
 have hkl:f.kids.length≤4611686018427387904:=by cases f;unfold FmR at hf;obtain⟨_,_,_,_,A,cap,_,_,_,h,_⟩:=hf;simp only[Fm.kids];omega
 obtain⟨A,cap,rfl⟩:=FmR.form hf;clear hf;have HT:=hid (@formedS_test f);have HU:=hid (@formedS_tail f);have HI:=hid (λw=>identifier_any f.name w hnm);by_cases h3:f.op=3
 ·have HF:=hid (HT.out h3);have h3':(f.op==(3:Int))=true:=by simp[h3]
  clear HU HT;generalize f.kids.length=n at*;have hend:∀b,formedS f=b->∀w',Below w.heap.size w w'->(Ending.returned (.bool b)= .returned (.bool (formedS f))∧Below w.heap.size w w'):=λb e w' h=>⟨by rw[e],h⟩
  have HE:=hid hend;clear hend;by_cases h0:n=0
  ·subst h0;by_cases h1:1≤f.cmp
   ·by_cases h2:f.cmp≤6
    ·(go_enter Tryz.func86,Tryz.ntmps86);(go_wp2_with fail);refine(HI.out _).mono ?_;rintro e w1 ⟨rfl,hb1⟩;obtain⟨hce,hfr⟩:=bcell hb1;have hbw:Below w.heap.size w w1:=(below1 w _).trans (hb1.mono (by simp));have HK:=hid (key_any f.name w1);cases hid0:identS f.name
     ·have HG:=hid (HE.out false (by rw[HF.out,hid0];simp));clear HF HE;go_wp2;go_ret;exact HG.out _ hbw
     ·dsimp only;(go_wp2_with fail);refine HK.out.mono ?_;rintro e w2 ⟨rfl,hb2⟩;have HG:=hid (HE.out (!keyS f.name) (by rw[HF.out,hid0];simp[h1,h2]));go_wp2;go_ret;exact HG.out _ (hbw.trans (hb2.mono hbw.size))
    ·have HG:=hid (HE.out false (by rw[HF.out];simp[h2]));clear HF HE HI;(go_enter Tryz.func86,Tryz.ntmps86);go_wp2;go_ret;exact HG.out _ ((Below.refl _ _).alloc (Nat.le_refl _) _)
   ·have HG:=hid (HE.out false (by rw[HF.out];simp[h1]));clear HF HE HI;(go_enter Tryz.func86,Tryz.ntmps86);go_wp2;go_ret;exact HG.out _ ((Below.refl _ _).alloc (Nat.le_refl _) _)
  ·have HG:=hid (HE.out false (by rw[HF.out];simp[h0]));(have h0':((n:Int)==0)=false:=by simp;omega);clear HF HE HI;(go_enter Tryz.func86,Tryz.ntmps86);go_wp2;go_ret;exact HG.out _ ((Below.refl _ _).alloc (Nat.le_refl _) _)
 ·have HF:=hid (HU.out h3);have h3':(f.op==(3:Int))=false:=by simp[h3]
  clear h3;generalize f.kids.length=n at*;go_enter Tryz.func86,Tryz.ntmps86
  repeat' (first|(go_big_may;fail)|((with_reducible apply wpList_isG);rfl;first|((with_reducible apply wpList_gen);rfl;rfl;rfl;exact NotVar.app;intro bb hbb;(simp only[nr]))|((with_reducible apply wpList_gen2);rfl;rfl;rfl;exact NotVar.app;intro bb hbb;(simp only[nr]))|((with_reducible apply wpList_gconst);rfl;rfl;rfl;simp only[])|((with_reducible apply wpList_gskip);rfl;rfl;(first|exact Or.inl rfl|exact Or.inr rfl);(simp only[nr]))|((with_reducible apply wpList_ggmove);rfl;rfl;rfl;rfl;exact(by constructor);rfl;(simp only[nr]))|((with_reducible apply wpList_gmove);rfl;rfl;rfl;rfl;exact(by constructor);rfl;(simp only[nr]))|((with_reducible apply wpList_isGPick);rfl;first|((with_reducible apply wpList_gpick_and);rfl;rfl;rfl;exact(by constructor);rfl;rfl;rfl;rfl;(simp only[nr]))|((with_reducible apply wpList_gpick_or);rfl;rfl;rfl;exact(by constructor);rfl;rfl;rfl;rfl;(simp only[nr])))|((with_reducible apply wpList_guarded);rfl;rfl;rfl;exact(by constructor);(intro hG;(try simp only[Bool.and_eq_true,Bool.not_eq_true']at hG);(first|subst hG|(obtain⟨h1,h2⟩:=hG;subst h1;subst h2)|(obtain⟨⟨h1,h2⟩,h3⟩:=hG;subst h1;subst h2;subst h3));(try simp only[gv_true,gv_false,Bool.not_true,Bool.not_false,Bool.true_and,Bool.false_and,Bool.and_self]);go_simp;with_reducible rfl);(simp only[nr]))|((with_reducible apply wpList_gsplit);rfl;rfl;rfl;all_goals(intro hb;subst hb;(try simp only[gv_true,gv_false,Bool.not_true,Bool.not_false,Bool.true_and,Bool.false_and,Bool.and_self])))|((with_reducible apply wpList_gsplit2);rfl;rfl;rfl;all_goals(intro hb;(first|subst hb|((try simp only[Bool.and_eq_true,Bool.not_eq_true']at hb);obtain⟨h1,h2⟩:=hb;subst h1;subst h2));(try simp only[gv_true,gv_false,Bool.not_true,Bool.not_false,Bool.true_and,Bool.false_and,Bool.and_self]))))|((with_reducible apply wpList_isPick);rfl;rfl;first|((with_reducible apply wpList_pick_t);rfl;rfl;rfl;rfl;(simp only[nr]))|((with_reducible apply wpList_pick_f);rfl;rfl;rfl;rfl;(simp only[nr]))|((with_reducible apply wpList_pick_and);rfl;rfl;rfl;rfl;rfl;(simp only[nr]))|((with_reducible apply wpList_pick_or);rfl;rfl;rfl;rfl;rfl;(simp only[nr])))|go_values|go_guarded|go_step|go_upon|go_back|dsimp only)
  all_goals(go_ret;refine⟨ret_bool ?_,(Below.refl _ _).alloc (Nat.le_refl _) _⟩)
  all_goals
   clear HT HU HI hkl hnm;simp only[Hid]at*;rw[HF];clear HF;simp only[isEmpty_dec]at*
   subst_vars
   generalize f.op=op at*;generalize f.cmp=cm at*;generalize f.num=nu at*;by_cases hnn:f.name=⟨#[]⟩<;>simp[hnn]at* <;>repeat' split;(all_goals try simp_all);(all_goals try omega);(all_goals(rw[Bool.eq_iff_iff];simp));all_goals try omega
def checkLook(ds:List FactD)(f:Fm):Int:=
 if formedS f=false then 1 else if f.op≠3 then 0 else if f.num<0∨1000000<f.num then 10 else if factIdx ds f.name<0 then 7 else 0
def checkS(ds:List FactD)(f:Fm):Int:=if isLarge f=true then 2 else firstErr (checkLook ds) f
theorem check1_any(Z:Zone)(B:Nat)(v:Value)(ds:List FactD)(f:Fm)(cs:List Value)(w:World)(hf:FmR Z w f cs)(hd:Facts Z w v ds)(hB:One w B v):
  Calls Tryz.prog 85 #[.agg cs.toArray,.pointer (some ⟨B,0,none⟩)] w λe w'=>e= .returned (.int .i64 (checkLook ds f))∧Below w.heap.size w w':=by
 obtain⟨A,cap,rfl⟩:=FmR.form hf;have HF:=hid (λo=>formed_any Z f _ (w.alloc o) (FmR.keep (.alloc (.refl _ _) o) _ _ hf));have HI:=hid (λw'(h:Below w.heap.size w w')=>factIndex_any Z v ds f.name w' (hd.keep (.of_below h)));obtain⟨⟨D,dcap,rfl,-,-,-,-⟩,-⟩:=hd;have hBc:=hB.cell;have hBf:=hB.free;have hBl:=hB.lt;clear hf;go_enter Tryz.func85,Tryz.ntmps85
 go_wp2_with fail
 refine(HF.out _).mono ?_;rintro e w1 ⟨rfl,hb1⟩;obtain⟨hce,hfr⟩:=bcell hb1;have hbw:Below w.heap.size w w1:=(below1 w _).trans (hb1.mono (by simp));have HE:=hid (show checkLook ds f=if formedS f=false then 1 else if f.op≠3 then 0 else if f.num<0∨1000000<f.num then 10 else if factIdx ds f.name<0 then 7 else 0 from rfl);generalize formedS f=bf at*;have hend:∀b,checkLook ds f=b->∀w',Below w.heap.size w w'->(Ending.returned (.int .i64 b)= .returned (.int .i64 (checkLook ds f))∧Below w.heap.size w w'):=λb e w' h=>⟨by rw[e],h⟩
 have HG:=hid hend;clear hend;obtain⟨b1c,b1f⟩:w1.cell? ⟨B,0,none⟩=some (.slice D ds.length dcap)∧B<w1.heap.size:=⟨by rw[hbw.cell hBl];exact hBc,by have:=hbw.size;omega⟩;cases bf
 ·have HK:=hid (HG.out 1 (by rw[HE.out];simp));clear HG HE;dsimp only;go_wp2;go_ret;exact HK.out _ hbw
 ·dsimp only;by_cases h3:f.op=3
  ·by_cases hn:f.num<0∨1000000<f.num
   ·have HK:=hid (HG.out 10 (by rw[HE.out];simp[h3,hn]));clear HG HE;by_cases hn0:f.num<0
    ·go_wp2;go_ret;exact HK.out _ hbw
    ·(have hn1:1000000<f.num:=by omega);go_wp2;go_ret;exact HK.out _ hbw
   ·have HE2:=hid (show checkLook ds f=if factIdx ds f.name<0 then 7 else 0 by rw[HE.out];simp[h3,hn]);clear HE;(have hn0:¬f.num<0:=by omega);(have hn1:¬1000000<f.num:=by omega);clear hn;(go_wp2_with fail);refine(HI.out _ hbw).mono ?_;rintro e w2 ⟨rfl,hb2⟩;dsimp only;by_cases hi:factIdx ds f.name<0
    ·have HK:=hid (HG.out 7 (by rw[HE2.out];simp[hi]));go_wp2;go_ret;exact HK.out _ (hbw.trans (hb2.mono hbw.size))
    ·have HK:=hid (HG.out 0 (by rw[HE2.out];simp[hi]));go_wp2;go_ret;exact HK.out _ (hbw.trans (hb2.mono hbw.size))
  ·have HK:=hid (HG.out 0 (by rw[HE.out];simp[h3]));(have h3':(f.op==(3:Int))=false:=by simp[h3]);clear HG HE;go_wp2;go_ret;exact HK.out _ hbw
theorem check_any(Z:Zone)(v:Value)(ds:List FactD)(f:Fm)(cs:List Value)(w:World)(hf:FmR Z w f cs)(hd:Facts Z w v ds)(hsz:fsize f≤4000000000000000000)(hz:∀b,Z b->b<w.heap.size):
  Calls Tryz.prog 50 #[.agg cs.toArray,.agg #[v]] w λe w'=>e= .returned (.int .i64 (checkS ds f))∧Below w.heap.size w w':=by
 obtain⟨A,cap,rfl⟩:=FmR.form hf;have hd':=hd;obtain⟨⟨D,dcap,rfl,-,-,-,-⟩,-⟩:=hd;have eg:∀args w,(callFunc 85 args).run Tryz.prog w= .ok (.enter 85 args) w:=enters_of Tryz.func85 (by kernel_rfl) rfl;have hzs:∀W,w.heap.size≤W->∀b,Z b->b<W:=λW h b hb=>Nat.lt_of_lt_of_le (hz b hb) h
 have HL:=hid (λw'(h:Below w.heap.size w w')=>large_any Z f _ w' (FmR.keep (.of_below h) _ _ hf) hsz (hzs _ h.size));have HE:=hid (show checkS ds f=if isLarge f=true then 2 else firstErr (checkLook ds) f from rfl);let W0:=(w.alloc (.cells #[.int .i64 f.op,.string f.name,.int .i64 f.cmp,.int .i64 f.num,.slice A f.kids.length cap] 47)).alloc (.cells #[.slice D ds.length dcap] 24);have hW0:Below w.heap.size w W0:=((Below.refl _ _).alloc (Nat.le_refl _) _).alloc (by simp) _
 have hone:One W0 (w.heap.size+1) (.slice D ds.length dcap):=by
  have:=One.new (w.alloc (.cells #[.int .i64 f.op,.string f.name,.int .i64 f.cmp,.int .i64 f.num,.slice A f.kids.length cap] 47)) (.slice D ds.length dcap) 24;simp only[World.size_alloc]at this;exact this
 have hWs:W0.heap.size=w.heap.size+2:=by simp[W0]
 have HF:=hid (λw1(hb1:Below W0.heap.size W0 w1)=>first_any 85 #[.pointer (some ⟨w.heap.size+1,0,none⟩)] eg Z (checkLook ds) w1
  (λx cs W hx hW=>check1_any Z (w.heap.size+1) _ ds x cs W hx (hd'.keep (.of_below (hW0.trans ((hb1.trans (hW.mono hb1.size)).mono hW0.size)))) (hone.of_block ((hb1.trans (hW.mono hb1.size)).block _ (by omega)))) (fsize f) f (Nat.le_refl _) _ w1 (FmR.keep (.of_below (hW0.trans (hb1.mono hW0.size))) _ _ hf) (.refl _ _))
 clear hf hd';go_enter Tryz.func50,Tryz.ntmps50
 go_wp2_with fail
 refine(HL.out W0 hW0).mono ?_;rintro e w1 ⟨rfl,hb1⟩;dsimp only;have hbw:Below w.heap.size w w1:=hW0.trans (hb1.mono hW0.size);obtain⟨c0,c0f⟩:w1.cell? ⟨w.heap.size+1,0,none⟩=some (.slice D ds.length dcap)∧w.heap.size+1<w1.heap.size:=⟨by rw[hb1.cell (by show w.heap.size+1<W0.heap.size;omega)];exact hone.cell,by have:=hb1.size;omega⟩
 obtain⟨d0,d1,d2,d3,d4⟩:=five_cells (w:=w1) (b:=w.heap.size) (o:=0) (v0:= .int .i64 f.op) (v1:= .string f.name) (v2:= .int .i64 f.cmp) (v3:= .int .i64 f.num) (v4:= .slice A f.kids.length cap) (λj u hu=>by
  rw[hb1.cell (by show w.heap.size<W0.heap.size;omega)]
  match j,hu with
  |0,h=>simpa[W0]using h
  |1,h=>simpa[W0]using h
  |2,h=>simpa[W0]using h
  |3,h=>simpa[W0]using h
  |4,h=>simpa[W0]using h)
 cases hl:isLarge f
 ·have HG:=hid (HF.out w1 hb1);go_wp2_with fail
  refine HG.out.mono ?_;rintro e w2 ⟨rfl,hb2⟩;have HK:=hid (show firstErr (checkLook ds) f=checkS ds f by rw[HE.out,hl];simp);go_wp2;go_ret;exact⟨ret_int HK.out,hbw.trans (hb2.mono hbw.size)⟩
 ·have HK:=hid (show 2=checkS ds f by rw[HE.out,hl];simp);go_wp2;go_ret;exact⟨ret_int HK.out,hbw⟩
def cmpv(x cm n:Int):Bool:=
 if cm=1 then x==n else if cm=2 then x !=n else if cm=3 then decide (x<n)else if cm=4 then decide (x≤n)else if cm=5 then decide (n<x)else if cm=6 then decide (n≤x)else false
mutual
def evF(ds:List FactD)(c:List Int):Fm->Bool
 | .mk op nm cm nu kids=>if op=3 then cmpv (c.getD (factIdx ds nm).toNat 0) cm nu else if op=4 then !anyF ds c kids else if op=5 then allF ds c kids else if op=6 then anyF ds c kids else decide (op=1)
def allF(ds:List FactD)(c:List Int):List Fm->Bool
 |[]=>true
 |k::ks=>evF ds c k&&allF ds c ks
def anyF(ds:List FactD)(c:List Int):List Fm->Bool
 |[]=>false
 |k::ks=>evF ds c k||anyF ds c ks
end
theorem evF_eq(ds:List FactD)(c:List Int)(f:Fm):evF ds c f=if f.op=3 then cmpv (c.getD (factIdx ds f.name).toNat 0) f.cmp f.num else if f.op=4 then !anyF ds c f.kids else if f.op=5 then allF ds c f.kids else if f.op=6 then anyF ds c f.kids else decide (f.op=1):=by
 cases f;rw[evF];rfl
theorem anyF_any(ds:List FactD)(c:List Int):∀l,anyF ds c l=l.any (evF ds c)
 |[]=>by simp[anyF]
 |k::ks=>by simp[anyF,anyF_any ds c ks]
theorem allF_all(ds:List FactD)(c:List Int):∀l,allF ds c l=l.all (evF ds c)
 |[]=>by simp[allF]
 |k::ks=>by simp[allF,allF_all ds c ks]
theorem allF_not(ds:List FactD)(c:List Int)(l:List Fm):allF ds c l= !(l.any λk=> !evF ds c k):=by
 rw[allF_all];induction l with
 |nil=>rfl
 |cons a l ih=>simp[ih]
theorem cell_below{w0 w w':World}{p:Addr}{v:Value}(h:Below w0.heap.size w0 w)(h':Below w.heap.size w w')(hp:p.block<w0.heap.size)(hc:w.cell? p=some v):w'.cell? p=some v:=by
 rw[h'.cell (Nat.lt_of_lt_of_le hp h.size)];exact hc
theorem firstErr_zero{L:Fm->Int}{f:Fm}(h:firstErr L f=0):L f=0∧firstErrs L f.kids=0:=by
 rw[firstErr_eq]at h;by_cases h0:L f=0
 ·rw[if_pos h0]at h;exact⟨h0,h⟩
 ·rw[if_neg h0]at h;exact absurd h h0
theorem firstErrs_zero{L:Fm->Int}:∀{l:List Fm},firstErrs L l=0->∀k(hk:k<l.length),firstErr L l[k]=0
 |[],_,k,hk=>absurd hk (Nat.not_lt_zero _)
 |a::l,h,k,hk=>by
  rw[firstErrs]at h;by_cases h0:firstErr L a=0
  ·rw[if_pos h0]at h
   cases k with
   |zero=>exact h0
   |succ k=>exact firstErrs_zero h k (by simpa using hk)
  ·rw[if_neg h0]at h;exact absurd h h0
theorem checkLook_test{ds:List FactD}{f:Fm}(h:checkLook ds f=0):formedS f=true∧(f.op=3->0≤f.num∧f.num≤1000000∧0≤factIdx ds f.name):=by
 unfold checkLook at h;cases hf:formedS f
 ·rw[if_pos hf]at h;omega
 ·refine⟨rfl,λh3=> ?_⟩;rw[if_neg (by simp[hf]),if_neg (by simp[h3])]at h;split at h
  ·omega
  ·split at h
   ·omega
   ·omega
def kidP(l:List Fm)(q:Fm->Bool)(i:Nat):Bool:=match l[i]? with|some x=>q x|none=>false
theorem kidP_at{l:List Fm}{q:Fm->Bool}{i:Nat}(hi:i<l.length):kidP l q i=q l[i]:=by simp[kidP,List.getElem?_eq_getElem hi]
theorem firstIdx_any(l:List Fm)(q:Fm->Bool):decide ((0:Int)≤firstIdx (kidP l q) l.length 0)=l.any q:=by
 rw[Bool.eq_iff_iff,decide_eq_true_eq,List.any_eq_true];rcases firstIdx_spec (kidP l q) l.length 0 with⟨k,_,h2,h3,_,h5⟩|⟨h1,h2⟩
 ·rw[h5];have hk:k<l.length:=by omega
  rw[kidP_at hk]at h3;exact⟨λ_=>⟨_,List.getElem_mem hk,h3⟩,λ_=>by omega⟩
 ·rw[h2];constructor
  ·intro h;omega
  ·rintro⟨x,hx,hq⟩;obtain⟨j,hj,rfl⟩:=List.getElem_of_mem hx;have:=h1 j (Nat.zero_le _) (by omega);rw[kidP_at hj]at this;simp[hq]at this
theorem below_thru{w W w':World}(h:Below w.heap.size w W)(hb:Below W.heap.size W w'):Below w.heap.size w w':=h.trans (hb.mono h.size)
theorem drew_cell{w w1:World}(h:Below w.drew.heap.size w.drew w1){p:Addr}(hp:p.block<w.heap.size):w1.cell? p=w.cell? p:=h.cell hp
theorem cell_keep{w w1:World}(h:Below w.heap.size w w1){p:Addr}{v:Value}(hc:w.cell? p=some v):w1.cell? p=some v:=by
 rw[h.cell (lt_of_cell hc)];exact hc
theorem fmr_kids{Z:Zone}{w:World}{f:Fm}{A:Option Addr}{cap:Nat}{a b c d:Value}(h:FmR Z w f [a,b,c,d,.slice A f.kids.length cap]):SeqR (λcs f=>FmR Z w f cs) 5 Z w f.kids A∧f.kids.length*56≤140737488355328:=by
 cases f;unfold FmR at h;obtain⟨_,_,_,_,A',cap',e',_,_,hb,h⟩:=h;injection e' with _ e';injection e' with _ e';injection e' with _ e';injection e' with _ e';injection e' with e';injection e' with e';subst e';exact⟨FmsR.seq h,hb⟩
theorem Tryz.idx7_1(b0 b1 b2 b3 b4 b5 b6:Value)(w:World):(Instr.index 109 (.agg #[b0,b1,b2,b3,b4,b5,b6]) (.int .i64 1)).run Tryz.prog w= .ok b1 w:=by kernel_rfl
theorem Tryz.idx7_2(b0 b1 b2 b3 b4 b5 b6:Value)(w:World):(Instr.index 109 (.agg #[b0,b1,b2,b3,b4,b5,b6]) (.int .i64 2)).run Tryz.prog w= .ok b2 w:=by kernel_rfl
theorem Tryz.idx7_3(b0 b1 b2 b3 b4 b5 b6:Value)(w:World):(Instr.index 109 (.agg #[b0,b1,b2,b3,b4,b5,b6]) (.int .i64 3)).run Tryz.prog w= .ok b3 w:=by kernel_rfl
theorem Tryz.idx7_4(b0 b1 b2 b3 b4 b5 b6:Value)(w:World):(Instr.index 109 (.agg #[b0,b1,b2,b3,b4,b5,b6]) (.int .i64 4)).run Tryz.prog w= .ok b4 w:=by kernel_rfl
theorem Tryz.idx7_5(b0 b1 b2 b3 b4 b5 b6:Value)(w:World):(Instr.index 109 (.agg #[b0,b1,b2,b3,b4,b5,b6]) (.int .i64 5)).run Tryz.prog w= .ok b5 w:=by kernel_rfl
theorem Tryz.idx7_6(b0 b1 b2 b3 b4 b5 b6:Value)(w:World):(Instr.index 109 (.agg #[b0,b1,b2,b3,b4,b5,b6]) (.int .i64 6)).run Tryz.prog w= .ok b6 w:=by kernel_rfl
theorem Tryz.idx7_cmp(x n cm:Int)(h1:1≤cm)(h6:cm≤6)(w:World):(Instr.index 109 (.agg #[.bool false,.bool (x==n),.bool (x !=n),.bool (decide (x<n)),.bool (decide (x≤n)),.bool (decide (n<x)),.bool (decide (n≤x))]) (.int .i64 cm)).run Tryz.prog w= .ok (.bool (cmpv x cm n)) w:=by
 have hcc:cm=1∨cm=2∨cm=3∨cm=4∨cm=5∨cm=6:=by omega
 rcases hcc with rfl|rfl|rfl|rfl|rfl|rfl
 ·exact Tryz.idx7_1 ..
 ·exact Tryz.idx7_2 ..
 ·exact Tryz.idx7_3 ..
 ·exact Tryz.idx7_4 ..
 ·exact Tryz.idx7_5 ..
 ·exact Tryz.idx7_6 ..
def SelfH(Bc Bd Bs:Nat):Value:= .func (.func 58) #[] #[.pointer (some ⟨Bc,0,none⟩),.pointer (some ⟨Bd,0,none⟩),.pointer (some ⟨Bs,0,none⟩)]
theorem Tryz.egHolds1:∀args w,(callFunc 58 args).run Tryz.prog w= .ok (.enter 58 args) w:=enters_of Tryz.func58 (by kernel_rfl) rfl
theorem Tryz.egHolds11:∀args w,(callFunc 61 args).run Tryz.prog w= .ok (.enter 61 args) w:=enters_of Tryz.func61 (by kernel_rfl) rfl
theorem holds11_any(Bc Bd Bs:Nat)(a b c d e:Value)(w:World)(r:Bool)(hBs:w.cell? ⟨Bs,0,none⟩=some (SelfH Bc Bd Bs))
  (h:∀W,Below w.heap.size w W->Calls Tryz.prog 58 #[.agg #[a,b,c,d,e],.pointer (some ⟨Bc,0,none⟩),.pointer (some ⟨Bd,0,none⟩),.pointer (some ⟨Bs,0,none⟩)] W λe w'=>e= .returned (.bool r)∧Below W.heap.size W w'):
  Calls Tryz.prog 61 #[.agg #[a,b,c,d,e],.pointer (some ⟨Bs,0,none⟩)] w λe w'=>e= .returned (.bool (!r))∧Below w.heap.size w w':=by
 have bs3:=lt_of_cell hBs;unfold SelfH at hBs;have eg:=Tryz.egHolds1;have HC:=hid h;clear h;go_enter Tryz.func61,Tryz.ntmps61
 go_wp2_with fail
 refine(HC.out _ (below1 w _)).mono ?_;rintro e w1 ⟨rfl,hb1⟩;go_wp2;go_ret;exact⟨rfl,below_thru (below1 w _) hb1⟩
theorem holds1_any(Z:Zone)(Bc Bd Bs:Nat)(v vc:Value)(ds:List FactD)(c:List Int)(hlen:c.length=ds.length):∀(m:Nat)(f:Fm),fsize f≤m->∀(cs:List Value)(w:World),FmR Z w f cs->Facts Z w v ds->Ints Z w vc c->One w Bd v->One w Bc vc->One w Bs (SelfH Bc Bd Bs)->firstErr (checkLook ds) f=0->
  Calls Tryz.prog 58 #[.agg cs.toArray,.pointer (some ⟨Bc,0,none⟩),.pointer (some ⟨Bd,0,none⟩),.pointer (some ⟨Bs,0,none⟩)] w λe w'=>e= .returned (.bool (evF ds c f))∧Below w.heap.size w w':=by
 intro m
 induction m with
 |zero=>intro f hm;have:=fsize_pos f;omega
 |succ m ih=>
 intro f hm cs w hf hd hc hBd hBc hBs hok;have eg:=Tryz.egHolds1;have eg2:=Tryz.egHolds11;have IH:=hid ih;clear ih;obtain⟨A,cap,rfl⟩:=FmR.form hf;obtain⟨h0,hks⟩:=firstErr_zero hok;obtain⟨hform,htest⟩:=checkLook_test h0;obtain⟨hkids,hkl⟩:=fmr_kids hf;have HEV:=hid (evF_eq ds c f);have hdF:=hd;have hcF:=hc;obtain⟨⟨D,dcap,rfl,-,-,-,-⟩,-⟩:=hd;obtain⟨⟨C,ccap,rfl,-,-,-,-⟩,-⟩:=hc;have bc1:=hBc.cell;have bc3:=hBc.lt;have bd1:=hBd.cell;have bd3:=hBd.lt;have bs1:=hBs.cell;have bs3:=hBs.lt;unfold SelfH at bs1;have hend:∀b,evF ds c f=b->∀w',Below w.heap.size w w'->(Ending.returned (.bool b)= .returned (.bool (evF ds c f))∧Below w.heap.size w w'):=λb e w' h=>⟨by rw[e],h⟩
 have HG:=hid hend;clear hend;by_cases h3:f.op=3
 ·obtain⟨hn0,hn1,hi⟩:=htest h3
  have hcm:1≤f.cmp∧f.cmp≤6:=by
   rw[formedS_test h3]at hform;simp only[Bool.and_eq_true,decide_eq_true_eq]at hform;omega
  obtain⟨k,hk,hkl2⟩:∃k:Nat,factIdx ds f.name=k∧k<c.length:=by
   unfold factIdx at hi⊢;rcases firstIdx_spec (nameIs ds f.name) ds.length 0 with⟨k,_,h2,h3,_,h5⟩|⟨h1,h2⟩
   ·exact⟨k,h5,by omega⟩
   ·rw[h2]at hi;omega
  have hcl:c.length<9223372036854775807:=by obtain⟨⟨_,_,_,_,_,h,_⟩,_⟩:=hcF;omega
  obtain⟨b,off,rfl,hz,hbl,hcell⟩:=Ints.at_ hcF hkl2;have HI:=hid (λW(h:Below w.heap.size w W)=>factIndex_any Z _ ds f.name W (hdF.keep (.of_below h)));rw[hk]at HI;have hx:c.getD k 0=c[k]:=by simp[List.getD,hkl2]
  have HK:=hid (HG.out (cmpv c[k] f.cmp f.num) (by rw[HEV.out,if_pos h3,hk,Int.toNat_natCast,hx]));generalize c[k]=x at*;have hk0:(k:Int)<c.length:=by omega
  have hkd:k<ds.length:=by omega
  obtain⟨hcm1,hcm6⟩:=hcm;clear HG HEV hkids hks hform htest h0 hx hk hi hn0 hn1;go_enter Tryz.func58,Tryz.ntmps58
  go_wp2_with fail
  have hB:=Blk.new w 47 #[.int .i64 3,.string f.name,.int .i64 f.cmp,.int .i64 f.num,.slice A f.kids.length cap];have hb0:=below1 w (.cells #[.int .i64 3,.string f.name,.int .i64 f.cmp,.int .i64 f.num,.slice A f.kids.length cap] 47);generalize w.alloc (.cells #[.int .i64 3,.string f.name,.int .i64 f.cmp,.int .i64 f.num,.slice A f.kids.length cap] 47)=W0 at*;have HB0:=hid (And.intro hB hb0)
  have HCELL:=hid (λ(W:World)(hW:Below W0.heap.size W0 W)=>(show W.cell? ⟨Bc,0,none⟩=some (.slice (some ⟨b,off,none⟩) c.length ccap)∧W.cell? ⟨b,off+k,none⟩=some (.int .i64 x)∧W.cell? ⟨w.heap.size,1,none⟩=some (.string f.name)∧W.cell? ⟨w.heap.size,2,none⟩=some (.int .i64 f.cmp)∧W.cell? ⟨w.heap.size,3,none⟩=some (.int .i64 f.num)∧W.cell? ⟨Bd,0,none⟩=some (.slice D ds.length dcap) from by
   have hbw:=hb0.trans (hW.mono hb0.size);have hx:=hB.below hW hB.lt
   exact⟨cell_below (.refl _ _) hbw bc3 bc1,cell_below (.refl _ _) hbw hbl hcell,hx.cell 1,hx.cell 2,hx.cell 3,cell_below (.refl _ _) hbw bd3 bd1⟩))
  have hbx:w.heap.size<W0.heap.size:=hB.lt;clear hB hb0;refine wp_region_S 7 (λW=>Below W0.heap.size W0 W) (by kernel_rfl) ?_;have hS:(λW=>Below W0.heap.size W0 W) W0.drew:=(Below.refl _ _).drew
  (refine tkS 0 ?_ hS ?_ ?_;rotate_left;intro w hkw;obtain⟨h0,h1,h2,h3,h4,h5⟩:=HCELL.out _ hkw;go_simp;(try with_reducible rfl);simp only[nr])
  (refine tkS 1 ?_ hS ?_ ?_;rotate_left;intro w hkw;obtain⟨h0,h1,h2,h3,h4,h5⟩:=HCELL.out _ hkw;go_simp;(try with_reducible rfl);simp only[nr])
  (refine tkZ 2 ?_ hS ?_ ?_;rotate_left;intro w;go_simp;(try with_reducible rfl);simp only[nr])
  (refine tkS 3 ?_ hS ?_ ?_;rotate_left;intro w hkw;obtain⟨h0,h1,h2,h3,h4,h5⟩:=HCELL.out _ hkw;go_simp;(try with_reducible rfl);simp only[nr])
  refine wS1 4 (λK hK=> ?_);go_wp2_with fail
  refine(HI.out _ HB0.out.2.drew).mono ?_;rintro e w1 ⟨rfl,hb1⟩;have hS1:Below W0.heap.size W0 w1:=((Below.refl W0.heap.size W0).drew).trans hb1;refine hK _ _ (Or.inr hS1) ?_;clear hK K hb1 hS
  (try simp only[nr])
  have hS:(λW=>Below W0.heap.size W0 W) w1:=hS1
  (refine tkZ 5 ?_ hS ?_ ?_;rotate_left;intro w;go_simp;(try with_reducible rfl);simp only[nr])
  (refine tkS 6 ?_ hS ?_ ?_;rotate_left;intro w hkw;obtain⟨h0,h1,h2,h3,h4,h5⟩:=HCELL.out _ hkw;go_simp;(try with_reducible rfl);simp only[nr])
  refine wS1 7 (λK hK=> ?_);go_wp2_with fail
  refine hK _ _ (Or.inl rfl) ?_;clear hK K
  (try simp only[nr])
  refine wSd ?_ _;obtain⟨-,-,-,q3,q4,-⟩:=HCELL.out _ hS1;have hbw:Below w.heap.size w w1:=HB0.out.2.trans (hS1.mono HB0.out.2.size);have hbx1:w.heap.size<w1.heap.size:=Nat.lt_of_lt_of_le hbx hS1.size;clear HI hcF hBc hBd hBs hdF eg eg2 IH hf HCELL HB0 hS hS1 bc1 bd1 bs1 hcell;have hix:=Tryz.idx7_cmp x f.num f.cmp hcm1 hcm6;generalize f.cmp=cm at*;generalize f.num=nu at*;go_wp2;go_ret;exact HK.out _ hbw
 ·have h3':(f.op==(3:Int))=false:=by simp[h3]
  by_cases h4:f.op=4
  ·have hl1:f.kids.length=1:=by
    rw[formedS_tail h3]at hform;split at hform
    ·simp at hform
    ·simpa[h4]using hform
   obtain⟨g,hg⟩:∃g,f.kids=[g]:=by
    cases hk:f.kids with
    |nil=>rw[hk]at hl1;simp at hl1
    |cons x r=>rw[hk]at hl1;simp at hl1;exact⟨x,by rw[hl1]⟩
   (have hle:fsize g<fsize f:=by have:=fsize_eq f;rw[hg]at this;simp[fsizes]at this;omega);rw[hg]at hkids hks;have hgk:firstErr (checkLook ds) g=0:=firstErrs_zero hks 0 (by simp);obtain⟨b,off,cs,rfl,hz,hcs,hfk,-⟩:=hkids;have hfk':=hfk;obtain⟨A',cap',rfl⟩:=FmR.form hfk;obtain⟨c0,c1,c2,c3,c4⟩:=five_cells (λj u hu=>hcs j u hu);have HC:=hid (λW(h:Below w.heap.size w W)=>IH.out g (by omega) _ W (FmR.keep (.of_below h) _ _ hfk') (hdF.keep (.of_below h)) (hcF.keep (.of_below h)) (hBd.of_block (h.block _ bd3)) (hBc.of_block (h.block _ bc3)) (hBs.of_block (h.block _ bs3)) hgk)
   have HK:=hid (HG.out (!evF ds c g) (by
    rw[HEV.out,if_neg h3,if_pos h4,hg];simp[anyF]))
   (have hl0:(0:Int)<(f.kids.length:Nat):=by omega);(have hl9:0<f.kids.length:=by omega);have hbl:=lt_of_cell c0;clear HG HEV h3 hcs hfk hfk' hle hg hl1 hks hform htest h0 hgk;(go_enter Tryz.func58,Tryz.ntmps58);(go_wp2_with fail);go_region_with(go_at_call 58;refine(HC.out _ (below1 w _).drew).mono ?_;rintro e w1 ⟨rfl,hb1⟩);(all_goals go_wp2);all_goals(go_ret;exact HK.out _ (below_thru (below1 w _).drew hb1))
  ·(have h4':(f.op==(4:Int))=false:=by simp[h4]);by_cases h5:f.op=5
   ·have HP:=hid (containsFuncFormula_any 61 #[.pointer (some ⟨Bs,0,none⟩)] eg2 (λcs x=>FmR Z w x cs) Z f.kids (kidP f.kids λx=> !evF ds c x) A cap (w.alloc (.cells #[.int .i64 f.op,.string f.name,.int .i64 f.cmp,.int .i64 f.num,.slice A f.kids.length cap] 47))
     (λcs x h=>by obtain⟨A,cap,rfl⟩:=FmR.form h;exact⟨_,_,_,_,_,rfl⟩) (hkids.imp (λ_ _ h=>h) (.alloc (.refl _ _) _) (λ_ h=>h)) (by omega) (λi hi cs hcs W hW=>by
      have hwW:Below w.heap.size w W:=below_thru (below1 w _) hW;obtain⟨A',cap',rfl⟩:=FmR.form hcs;rw[kidP_at hi];refine holds11_any Bc Bd Bs _ _ _ _ _ W _ (by rw[hwW.cell bs3];exact hBs.cell) (λW' hW'=> ?_);have h:Below w.heap.size w W':=below_thru hwW hW'
      exact IH.out f.kids[i] (by have:=fsize_kid hi;omega) _ W' (FmR.keep (.of_below h) _ _ hcs) (hdF.keep (.of_below h)) (hcF.keep (.of_below h)) (hBd.of_block (h.block _ bd3)) (hBc.of_block (h.block _ bc3)) (hBs.of_block (h.block _ bs3)) (firstErrs_zero hks i hi)))
    have HK:=hid (HG.out (!(f.kids.any λx=> !evF ds c x)) (by rw[HEV.out,if_neg h3,if_neg h4,if_pos h5,allF_not]));have HQ:=hid (firstIdx_any f.kids (λx=> !evF ds c x));clear HG HEV h3 hkids hks hform htest h0;(go_enter Tryz.func58,Tryz.ntmps58);(go_wp2_with fail);rw[<-h5];refine HP.out.mono ?_;rintro e w1 ⟨rfl,hb1⟩;go_wp2;go_ret;rw[HQ.out];exact HK.out _ (below_thru (below1 w _) hb1)
   ·(have h5':(f.op==(5:Int))=false:=by simp[h5]);by_cases h6:f.op=6
    ·have HP:=hid (containsFuncFormula_any 58 #[.pointer (some ⟨Bc,0,none⟩),.pointer (some ⟨Bd,0,none⟩),.pointer (some ⟨Bs,0,none⟩)] eg (λcs x=>FmR Z w x cs) Z f.kids (kidP f.kids λx=>evF ds c x) A cap (w.alloc (.cells #[.int .i64 f.op,.string f.name,.int .i64 f.cmp,.int .i64 f.num,.slice A f.kids.length cap] 47))
      (λcs x h=>by obtain⟨A,cap,rfl⟩:=FmR.form h;exact⟨_,_,_,_,_,rfl⟩) (hkids.imp (λ_ _ h=>h) (.alloc (.refl _ _) _) (λ_ h=>h)) (by omega) (λi hi cs hcs W hW=>by
       have h:Below w.heap.size w W:=below_thru (below1 w _) hW;rw[kidP_at hi]
       exact IH.out f.kids[i] (by have:=fsize_kid hi;omega) _ W (FmR.keep (.of_below h) _ _ hcs) (hdF.keep (.of_below h)) (hcF.keep (.of_below h)) (hBd.of_block (h.block _ bd3)) (hBc.of_block (h.block _ bc3)) (hBs.of_block (h.block _ bs3)) (firstErrs_zero hks i hi)))
     have HK:=hid (HG.out (f.kids.any λx=>evF ds c x) (by rw[HEV.out,if_neg h3,if_neg h4,if_neg h5,if_pos h6,anyF_any]));have HQ:=hid (firstIdx_any f.kids (λx=>evF ds c x));clear HG HEV h3 hkids hks hform htest h0;(go_enter Tryz.func58,Tryz.ntmps58);(go_wp2_with fail);rw[<-h6];refine HP.out.mono ?_;rintro e w1 ⟨rfl,hb1⟩;go_wp2;go_ret;rw[HQ.out];exact HK.out _ (below_thru (below1 w _) hb1)
    ·(have h6':(f.op==(6:Int))=false:=by simp[h6]);have HK:=hid (HG.out (f.op==1) (by rw[HEV.out];simp[h3,h4,h5,h6];rfl));clear HG HEV h3 h4 h5 h6;(go_enter Tryz.func58,Tryz.ntmps58);go_wp2;go_ret;exact HK.out _ ((Below.refl _ _).alloc (Nat.le_refl _) _)
def holdsS(ds:List FactD)(c:List Int)(f:Fm):Bool:=fits ds c&&checkS ds f==0&&evF ds c f
theorem checkS_zero{ds:List FactD}{f:Fm}(h:checkS ds f=0):isLarge f=false∧firstErr (checkLook ds) f=0:=by
 unfold checkS at h;cases hl:isLarge f
 ·rw[hl]at h;exact⟨rfl,by simpa using h⟩
 ·rw[hl]at h;simp at h
theorem fits_len{ds:List FactD}{c:List Int}(h:fits ds c=true):c.length=ds.length:=by
 unfold fits at h;simp only[Bool.and_eq_true,decide_eq_true_eq]at h;exact h.1.2
theorem holds_any(Z:Zone)(v vc:Value)(ds:List FactD)(c:List Int)(f:Fm)(cs:List Value)(w:World)(hf:FmR Z w f cs)(hd:Facts Z w v ds)(hc:Ints Z w vc c)(hsz:fsize f≤4000000000000000000)(hz:∀b,Z b->b<w.heap.size):
  Calls Tryz.prog 27 #[.agg cs.toArray,.agg #[v],vc] w λe w'=>e= .returned (.bool (holdsS ds c f))∧Below w.heap.size w w':=by
 obtain⟨A,cap,rfl⟩:=FmR.form hf;have hdF:=hd;have hcF:=hc;obtain⟨⟨D,dcap,rfl,-,-,-,-⟩,-⟩:=hd;obtain⟨⟨C,ccap,rfl,-,-,-,-⟩,-⟩:=hc;have eg:=Tryz.egHolds1;have hzs:∀W,w.heap.size≤W->∀b,Z b->b<W:=λW h b hb=>Nat.lt_of_lt_of_le (hz b hb) h
 have HFi:=hid (λW(h:Below w.heap.size w W)=>factFits_any Z _ _ ds c W (hdF.keep (.of_below h)) (hcF.keep (.of_below h)));have HCh:=hid (λW(h:Below w.heap.size w W)=>check_any Z _ ds f _ W (FmR.keep (.of_below h) _ _ hf) (hdF.keep (.of_below h)) hsz (hzs _ h.size));have HE:=hid (show holdsS ds c f=(fits ds c&&checkS ds f==0&&evF ds c f) from rfl);let W0:=((w.alloc (.cells #[.int .i64 f.op,.string f.name,.int .i64 f.cmp,.int .i64 f.num,.slice A f.kids.length cap] 47)).alloc (.cells #[.slice D ds.length dcap] 24)).alloc (.cells #[.slice C c.length ccap] 39);have hW0:Below w.heap.size w W0:=(((Below.refl _ _).alloc (Nat.le_refl _) _).alloc (by simp) _).alloc (by simp;omega) _;have hWs:W0.heap.size=w.heap.size+3:=by simp[W0]
 have hbox:∀W,Below W0.heap.size W0 W->(W.cell? ⟨w.heap.size,0,none⟩=some (.int .i64 f.op)∧W.cell? ⟨w.heap.size,1,none⟩=some (.string f.name)∧W.cell? ⟨w.heap.size,2,none⟩=some (.int .i64 f.cmp)∧W.cell? ⟨w.heap.size,3,none⟩=some (.int .i64 f.num)∧W.cell? ⟨w.heap.size,4,none⟩=some (.slice A f.kids.length cap))∧One W (w.heap.size+1) (.slice D ds.length dcap)∧One W (w.heap.size+2) (.slice C c.length ccap)∧w.heap.size+3≤W.heap.size:=by
  intro W hW
  have h1:One W0 (w.heap.size+1) (.slice D ds.length dcap):= .alloc (by
   have:=One.new (w.alloc (.cells #[.int .i64 f.op,.string f.name,.int .i64 f.cmp,.int .i64 f.num,.slice A f.kids.length cap] 47)) (.slice D ds.length dcap) 24;simp only[World.size_alloc]at this
   exact this) _
  have h2:One W0 (w.heap.size+2) (.slice C c.length ccap):=by
   have:=One.new ((w.alloc (.cells #[.int .i64 f.op,.string f.name,.int .i64 f.cmp,.int .i64 f.num,.slice A f.kids.length cap] 47)).alloc (.cells #[.slice D ds.length dcap] 24)) (.slice C c.length ccap) 39;simp only[World.size_alloc]at this;exact this
  refine⟨five_cells (λj u hu=> ?_),h1.of_block (hW.block _ (by omega)),h2.of_block (hW.block _ (by omega)),by have:=hW.size;omega⟩;have hW1:Below (w.heap.size+1) (w.alloc (.cells #[.int .i64 f.op,.string f.name,.int .i64 f.cmp,.int .i64 f.num,.slice A f.kids.length cap] 47)) W0:=((Below.refl _ _).alloc (by simp) _).alloc (by simp) _;rw[hW.cell (by show w.heap.size<W0.heap.size;omega),hW1.cell (Nat.lt_succ_self _)]
  match j,hu with
  |0,h=>simpa using h
  |1,h=>simpa using h
  |2,h=>simpa using h
  |3,h=>simpa using h
  |4,h=>simpa using h
 have HB:=hid hbox;clear hbox;have HH:=hid (λ(hl:c.length=ds.length)(hok:firstErr (checkLook ds) f=0) Bs W(h:Below w.heap.size w W) h1 h2 h3=>holds1_any Z (w.heap.size+2) (w.heap.size+1) Bs _ _ ds c hl (fsize f) f (Nat.le_refl _) _ W (FmR.keep (.of_below h) _ _ hf) (hdF.keep (.of_below h)) (hcF.keep (.of_below h)) h1 h2 h3 hok);clear hf hdF hcF;go_enter Tryz.func27,Tryz.ntmps27
 go_wp2_with fail
 refine(HFi.out W0 hW0).mono ?_;rintro e w1 ⟨rfl,hb1⟩;dsimp only;have hbw:=below_thru hW0 hb1;obtain⟨⟨a0,a1,a2,a3,a4⟩,o1,o2,hs1⟩:=HB.out w1 hb1;have o1c:=o1.cell;have o2c:=o2.cell;cases hfi:fits ds c
 ·have HK:=hid (show holdsS ds c f=false by rw[HE.out,hfi];rfl);go_wp2;go_ret;exact⟨ret_bool HK.out.symm,hbw⟩
 ·have hlen:=fits_len hfi;go_wp2_with fail
  refine(HCh.out w1 hbw).mono ?_;rintro e w2 ⟨rfl,hb2⟩;dsimp only;clear a0 a1 a2 a3 a4 o1 o2 hs1 o1c o2c;have hbw2:=below_thru hbw hb2;have hbb2:=below_thru hb1 hb2;obtain⟨⟨a0,a1,a2,a3,a4⟩,o1,o2,hs1⟩:=HB.out w2 hbb2;have o1c:=o1.cell;have o2c:=o2.cell;by_cases hck:checkS ds f=0
  ·(have hck':((checkS ds f)!=(0:Int))=false:=by simp[hck]);have HHH:=hid (HH.out hlen (checkS_zero hck).2);have HK:=hid (show holdsS ds c f=evF ds c f by rw[HE.out,hfi,hck];rfl);have HOO:=hid (And.intro o1 o2);clear hck hbb2 o1 o2;(have hne1:w.heap.size<w2.heap.size:=by omega);(have hne2:w.heap.size+1<w2.heap.size:=by omega);(have hne3:w.heap.size+1+1<w2.heap.size:=by omega);(go_wp2_with fail);refine(HHH.out w2.heap.size _ (hbw2.alloc hbw2.size _) (HOO.out.1.alloc _) (HOO.out.2.alloc _) (One.new _ _ _)).mono ?_;rintro e w3 ⟨rfl,hb3⟩;go_wp2;go_ret;exact⟨ret_bool HK.out.symm,below_thru hbw2 (below_thru (below1 _ _) hb3)⟩
  ·(have hck':((checkS ds f)!=(0:Int))=true:=by simp[hck]);have HK:=hid (show holdsS ds c f=false by rw[HE.out,hfi];simp[hck]);clear hck;go_wp2;go_ret;exact⟨ret_bool HK.out.symm,hbw2⟩
instance decMem (x:ByteArray) (l:List ByteArray):Decidable (x∈l):=decidable_of_iff (∃y∈l,y=x) (by simp)
structure LineD where
 when_:Fm
 cls:ByteArray
 ctl:Bool
structure TarD where
 dom:List FactD
 lines:List LineD
structure RateD where
 cur:ByteArray
 day:Int
 num:Int
 den:Int
def lineOk(ds:List FactD)(l:LineD):Bool:=identS l.cls&&(checkS ds l.when_==0)
def validT(t:TarD):Bool:=validDom t.dom&&decide (0<t.lines.length)&&decide (t.lines.length≤100)&&t.lines.all (lineOk t.dom)
def lineOf(t:TarD)(c:List Int):Nat:=t.lines.findIdx (λl=>holdsS t.dom c l.when_)
def classT(t:TarD)(c:List Int):Int × Int:=
 if(validT t&&fits t.dom c)=false then(0,1)else if lineOf t c<t.lines.length then((lineOf t c:Nat),0)else(0,11)
def curOk(s:ByteArray):Bool:=isName s.data.toList
def amtOk(cur:ByteArray)(u:Int):Bool:=curOk cur&&decide (-1000000000000≤u∧u≤1000000000000)
def dayOk(d:Int):Bool:=decide (0≤d∧d≤100000)
def posOk(n:Int):Bool:=decide (1≤n∧n≤1000000)
def rateOk(base:ByteArray)(r:RateD):Bool:=curOk r.cur&&decide (r.cur≠base)&&dayOk r.day&&posOk r.num&&posOk r.den
def rateKey(r:RateD):ByteArray × Int:=(r.cur,r.day)
def validRates(l:List RateD)(base:ByteArray):Bool:=curOk base&&decide (l.length≤400)&&l.all (rateOk base)&&decide (l.map rateKey).Nodup
def rate0:RateD:=⟨⟨#[]⟩,0,0,0⟩
def bestStep(cur:ByteArray)(day:Int)(o:Option RateD)(x:RateD):Option RateD:=
 if x.cur=cur∧x.day≤day then(match o with|none=>some x|some y=>if y.day<x.day then some x else some y)else o
def bestR(l:List RateD)(cur:ByteArray)(day:Int):Option RateD:=l.foldl (bestStep cur day) none
def findR(l:List RateD)(base cur:ByteArray)(day:Int):RateD × Int:=
 if(validRates l base&&curOk cur&&dayOk day)=false then(rate0,1)else if cur=base then(⟨base,0,1,1⟩,0)else
  match bestR l cur day with|none=>(rate0,11)|some x=>(x,0)
def convR(l:List RateD)(base cur:ByteArray)(u:Int)(tc:ByteArray)(day:Int):Rt × Int:=
 if amtOk cur u=false then(rt0,1)else if(findR l base cur day).2≠0 then(rt0,(findR l base cur day).2)else if(findR l base tc day).2≠0 then(rt0,(findR l base tc day).2)else
  (prodQ (prodQ (ofR u 1) (ofR (findR l base cur day).1.num (findR l base cur day).1.den)) (ofR (findR l base tc day).1.den (findR l base tc day).1.num),0)
def largeP(l:List ProdD):Bool:=decide (60<l.length)||l.any (λp=>decide (12<p.parts.length))
def cntOk(c:CompD):Bool:=decide (1≤c.cnt∧c.cnt≤1000)
def oddP(p:ProdD):Bool:= !identS p.id||p.parts.any (λc=> !cntOk c)
def idsP(l:List ProdD):List ByteArray:=l.map ProdD.id
def partsOf(p:ProdD):List ByteArray:=p.parts.map CompD.prod
def onceP(l:List ProdD):Bool:=decide (idsP l).Nodup &&l.all (λp=>decide (partsOf p).Nodup)
def knownP(l:List ProdD):Bool:=l.all (λp=>(partsOf p).all λc=>decide (c∈idsP l))
def readyP(out:List ByteArray)(p:ProdD):Bool:=decide (p.id∉out)&&(partsOf p).all λc=>decide (c∈out)
def ordGo(l:List ProdD):Nat->List ByteArray->Option (List ByteArray)
 |0,out=>some out
 |n+1,out=>match l.find? (readyP out)with|none=>none|some p=>ordGo l n (out++[p.id])
def orderP(l:List ProdD):List ByteArray × Int:=
 if largeP l then([],2)else if l.any oddP then([],1)else if onceP l=false then([],9)else if knownP l=false then([],7)else
  match ordGo l l.length []with|none=>([],13)|some o=>(o,0)
def badP(t:TarD)(p:ProdD):Bool:=oddP p|| !amtOk p.cur p.units||decide (p.units<0)|| !fits t.dom p.cas
def firstE(t:TarD):List ProdD->Int
 |[]=>0
 |p::r=>if(classT t p.cas).2≠0 then(classT t p.cas).2 else firstE t r
def checkP(t:TarD)(l:List ProdD):Int:=
 if validT t=false then 1 else if largeP l then 2 else if l.any (badP t)then 1 else if(orderP l).2≠0 then(orderP l).2 else firstE t l
def plusR(x:Rt × Int)(n:Int)(y:Rt × Int):Rt × Int:=
 if x.2≠0 then x else if y.2≠0 then y else if(mulR (ofR n 1) y.1).2≠0 then(rt0,(mulR (ofR n 1) y.1).2)else addR x.1 (mulR (ofR n 1) y.1).1
def totS(l:List ProdD)(of:ProdD->(Rt × Int) × Bool):Nat->ByteArray->Rt × Int
 |0,_=>(rt0,0)
 |n+1,id=>match l.find? (λp=>decide (p.id=id))with
  |none=>(rt0,0)
  |some p=>if(of p).2 then(of p).1 else p.parts.foldl (λx c=>plusR x c.cnt (totS l of n c.prod)) (of p).1
def ownP(r:List RateD)(base:ByteArray)(day:Int)(p:ProdD):(Rt × Int) × Bool:=(convR r base p.cur p.units base day,false)
def totV(l:List ProdD)(r:List RateD)(base:ByteArray)(day:Int)(id:ByteArray):Rt × Int:=totS l (ownP r base day) (l.length+1) id
def ctlLine(t:TarD)(c:List Int):Bool:=match t.lines[lineOf t c]? with|none=>false|some x=>x.ctl
def ctlP(t:TarD)(l:List ProdD)(r:List RateD)(base:ByteArray)(day:Int)(p:ProdD):(Rt × Int) × Bool:=
 if ctlLine t p.cas then(totV l r base day p.id,true)else((rt0,0),false)
def totC(t:TarD)(l:List ProdD)(r:List RateD)(base:ByteArray)(day:Int)(id:ByteArray):Rt × Int:=totS l (ctlP t l r base day) (l.length+1) id
def openE(t:TarD)(l:List ProdD)(r:List RateD)(base id:ByteArray)(day:Int):Int:=
 if checkP t l≠0 then checkP t l else if(validRates r base&&dayOk day)=false then 1 else if id∈idsP l then 0 else 11
def valueP(t:TarD)(l:List ProdD)(r:List RateD)(base id:ByteArray)(day:Int):Rt × Int:=
 if openE t l r base id day≠0 then(rt0,openE t l r base id day)else totV l r base day id
def controlP(t:TarD)(l:List ProdD)(r:List RateD)(base id:ByteArray)(day:Int):Rt × Int:=
 if openE t l r base id day≠0 then(rt0,openE t l r base id day)else if(totV l r base day id).2≠0 then(rt0,(totV l r base day id).2)else totC t l r base day id
def shareP(t:TarD)(l:List ProdD)(r:List RateD)(base id:ByteArray)(day:Int):Int × Int:=
 if(controlP t l r base id day).2≠0 then(0,(controlP t l r base id day).2)else
 if(valueP t l r base id day).1.num =0 then(0,0)else
 if(mulR (ofR 100 1) (controlP t l r base id day).1).2≠0 then(0,(mulR (ofR 100 1) (controlP t l r base id day).1).2)else
 if(divR (mulR (ofR 100 1) (controlP t l r base id day).1).1 (valueP t l r base id day).1).2≠0 then(0,(divR (mulR (ofR 100 1) (controlP t l r base id day).1).1 (valueP t l r base id day).1).2)else
 floorR (divR (mulR (ofR 100 1) (controlP t l r base id day).1).1 (valueP t l r base id day).1).1
end Go.Proofs.YtimmfbnjndndlaaGreatDoor
