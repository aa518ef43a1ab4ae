/- Texts QP QQ. -/
import Derived.Test.YtimmfbnjndndlaaGreatDoorM33
set_option linter.all false
namespace Go.Proofs.YtimmfbnjndndlaaGreatDoor
open Go.RowKit
set_option maxHeartbeats 4000000
set_option maxRecDepth 100000
theorem indexFuncLine_any{α:Type}(g:FuncId)(lb:Array Value)(eg:∀args w,(callFunc g args).run Tryz.prog w= .ok (.enter g args) w)(R:List Value->α->Prop)(Z:Zone)(xs:List α)(p:Nat->Bool)(A:Option Addr)(cap:Nat)(w:World)
  (hR:∀cs x,R cs x->∃v0 v1 v2 v3 v4 v5 v6,cs=[v0,v1,v2,v3,v4,v5,v6])(hs:SeqR R 7 Z w xs A)(hn:xs.length≤140737488355328)(hp:PredF Tryz.prog g lb R w xs p):
  Calls Tryz.prog 25 #[.slice A xs.length cap,.func (.func g) #[] lb] w λe w'=>e= .returned (.int .i64 (firstIdx p xs.length 0))∧Below w.heap.size w w':=by
 have HP:=hid hp;clear hp;go_enter Tryz.func25,Tryz.ntmps25
 go_wp2;go_loopw[8] (λi wr=>∃k:Nat,k≤xs.length∧i= .int .i64 k∧Below w.heap.size w wr∧Hid (∀j,0≤j->j<k->p j=false)) (λi _=>xs.length-(intOf i).toNat);case atStart=>exact⟨0,Nat.zero_le _,rfl,Below.refl _ _,λj _ h=>absurd h (Nat.not_lt_zero j)⟩
 case round=>
  obtain⟨k,hk,rfl,hbel,hno⟩:=hrel;by_cases hlt:k<xs.length
  ·obtain⟨b,off,cs,rfl,hz,hc,hr⟩:=hs.at_ hlt;have HR:=hid hr;obtain⟨v0,v1,v2,v3,v4,v5,v6,rfl⟩:=hR _ _ hr;have hbs:b<w.heap.size:=lt_of_cell (hc 0 _ rfl);have hcb:=cells_below hbel hbs hc;have c0:wr.cell? ⟨b,off+k*7,none⟩=some v0:=hcb 0 _ rfl;have c1:wr.cell? ⟨b,off+k*7+1,none⟩=some v1:=hcb 1 _ rfl;have c2:wr.cell? ⟨b,off+k*7+2,none⟩=some v2:=hcb 2 _ rfl;have c3:wr.cell? ⟨b,off+k*7+3,none⟩=some v3:=hcb 3 _ rfl;have c4:wr.cell? ⟨b,off+k*7+4,none⟩=some v4:=hcb 4 _ rfl;have c5:wr.cell? ⟨b,off+k*7+5,none⟩=some v5:=hcb 5 _ rfl;have c6:wr.cell? ⟨b,off+k*7+6,none⟩=some v6:=hcb 6 _ rfl;clear hc hs hr hcb;have HC:=hid (HP.out k hlt _ HR.out _ hbel);have HBELW:=hid hbel;clear hbel;cases hpk:p k
   all_goals
    have HPK:=hid hpk;have HC':=HC.out;rw[hpk]at HC';clear hpk;have HC2:=hid HC';clear HC';(go_wp2_with fail);refine HC2.out.mono ?_;rintro e w1 ⟨rfl,hb1⟩;go_wp2
   ·go_roundw
    case rel=>exact⟨k+1,by omega,by go_num,(HBEL_trans HBELW.out hb1),λj h1 h2=>by
     by_cases e:j=k
     ·subst e;exact HPK.out
     ·exact hno.out j h1 (by omega)⟩
    case measure=>simp[intOf];omega
   ·go_ret;exact⟨ret_int (firstIdx_hit hno.out (Nat.zero_le _) (by omega) HPK.out).symm,HBEL_trans HBELW.out hb1⟩
  ·(obtain rfl:k=xs.length:=by omega);go_wp2;go_ret;exact⟨ret_int (firstIdx_miss (λj h1 h2=>hno.out j h1 (by omega))).symm,hbel⟩
theorem containsFuncLine_any{α:Type}(g:FuncId)(lb:Array Value)(eg:∀args w,(callFunc g args).run Tryz.prog w= .ok (.enter g args) w)(R:List Value->α->Prop)(Z:Zone)(xs:List α)(p:Nat->Bool)(A:Option Addr)(cap:Nat)(w:World)
  (hR:∀cs x,R cs x->∃v0 v1 v2 v3 v4 v5 v6,cs=[v0,v1,v2,v3,v4,v5,v6])(hs:SeqR R 7 Z w xs A)(hn:xs.length≤140737488355328)(hp:PredF Tryz.prog g lb R w xs p):
  Calls Tryz.prog 52 #[.slice A xs.length cap,.func (.func g) #[] lb] w λe w'=>e= .returned (.bool (decide (0≤firstIdx p xs.length 0)))∧Below w.heap.size w w':=by
 have HC:=hid (indexFuncLine_any g lb eg R Z xs p A cap w hR hs hn hp);clear hp hs;go_enter Tryz.func52,Tryz.ntmps52
 go_wp2_with fail
 refine HC.out.mono ?_;rintro e w1 ⟨rfl,hb1⟩;go_wp2;go_ret;exact⟨rfl,hb1⟩
theorem indexFuncProduct_any{α:Type}(g:FuncId)(lb:Array Value)(eg:∀args w,(callFunc g args).run Tryz.prog w= .ok (.enter g args) w)(R:List Value->α->Prop)(Z:Zone)(xs:List α)(p:Nat->Bool)(A:Option Addr)(cap:Nat)(w:World)
  (hR:∀cs x,R cs x->∃v0 v1 v2 v3 v4,cs=[v0,v1,v2,v3,v4])(hs:SeqR R 5 Z w xs A)(hn:xs.length≤140737488355328)(hp:PredF Tryz.prog g lb R w xs p):
  Calls Tryz.prog 41 #[.slice A xs.length cap,.func (.func g) #[] lb] w λe w'=>e= .returned (.int .i64 (firstIdx p xs.length 0))∧Below w.heap.size w w':=by
 have HP:=hid hp;clear hp;go_enter Tryz.func41,Tryz.ntmps41
 go_wp2;go_loopw[8] (λi wr=>∃k:Nat,k≤xs.length∧i= .int .i64 k∧Below w.heap.size w wr∧Hid (∀j,0≤j->j<k->p j=false)) (λi _=>xs.length-(intOf i).toNat);case atStart=>exact⟨0,Nat.zero_le _,rfl,Below.refl _ _,λj _ h=>absurd h (Nat.not_lt_zero j)⟩
 case round=>
  obtain⟨k,hk,rfl,hbel,hno⟩:=hrel;by_cases hlt:k<xs.length
  ·obtain⟨b,off,cs,rfl,hz,hc,hr⟩:=hs.at_ hlt;have HR:=hid hr;obtain⟨v0,v1,v2,v3,v4,rfl⟩:=hR _ _ hr;have hbs:b<w.heap.size:=lt_of_cell (hc 0 _ rfl);have hcb:=cells_below hbel hbs hc;have c0:wr.cell? ⟨b,off+k*5,none⟩=some v0:=hcb 0 _ rfl;have c1:wr.cell? ⟨b,off+k*5+1,none⟩=some v1:=hcb 1 _ rfl;have c2:wr.cell? ⟨b,off+k*5+2,none⟩=some v2:=hcb 2 _ rfl;have c3:wr.cell? ⟨b,off+k*5+3,none⟩=some v3:=hcb 3 _ rfl;have c4:wr.cell? ⟨b,off+k*5+4,none⟩=some v4:=hcb 4 _ rfl;clear hc hs hr hcb;have HC:=hid (HP.out k hlt _ HR.out _ hbel);have HBELW:=hid hbel;clear hbel;cases hpk:p k
   all_goals
    have HPK:=hid hpk;have HC':=HC.out;rw[hpk]at HC';clear hpk;have HC2:=hid HC';clear HC';(go_wp2_with fail);refine HC2.out.mono ?_;rintro e w1 ⟨rfl,hb1⟩;go_wp2
   ·go_roundw
    case rel=>exact⟨k+1,by omega,by go_num,(HBEL_trans HBELW.out hb1),λj h1 h2=>by
     by_cases e:j=k
     ·subst e;exact HPK.out
     ·exact hno.out j h1 (by omega)⟩
    case measure=>simp[intOf];omega
   ·go_ret;exact⟨ret_int (firstIdx_hit hno.out (Nat.zero_le _) (by omega) HPK.out).symm,HBEL_trans HBELW.out hb1⟩
  ·(obtain rfl:k=xs.length:=by omega);go_wp2;go_ret;exact⟨ret_int (firstIdx_miss (λj h1 h2=>hno.out j h1 (by omega))).symm,hbel⟩
theorem containsFuncProduct_any{α:Type}(g:FuncId)(lb:Array Value)(eg:∀args w,(callFunc g args).run Tryz.prog w= .ok (.enter g args) w)(R:List Value->α->Prop)(Z:Zone)(xs:List α)(p:Nat->Bool)(A:Option Addr)(cap:Nat)(w:World)
  (hR:∀cs x,R cs x->∃v0 v1 v2 v3 v4,cs=[v0,v1,v2,v3,v4])(hs:SeqR R 5 Z w xs A)(hn:xs.length≤140737488355328)(hp:PredF Tryz.prog g lb R w xs p):
  Calls Tryz.prog 38 #[.slice A xs.length cap,.func (.func g) #[] lb] w λe w'=>e= .returned (.bool (decide (0≤firstIdx p xs.length 0)))∧Below w.heap.size w w':=by
 have HC:=hid (indexFuncProduct_any g lb eg R Z xs p A cap w hR hs hn hp);clear hp hs;go_enter Tryz.func38,Tryz.ntmps38
 go_wp2_with fail
 refine HC.out.mono ?_;rintro e w1 ⟨rfl,hb1⟩;go_wp2;go_ret;exact⟨rfl,hb1⟩
theorem indexFuncComponent_any{α:Type}(g:FuncId)(lb:Array Value)(eg:∀args w,(callFunc g args).run Tryz.prog w= .ok (.enter g args) w)(R:List Value->α->Prop)(Z:Zone)(xs:List α)(p:Nat->Bool)(A:Option Addr)(cap:Nat)(w:World)
  (hR:∀cs x,R cs x->∃v0 v1,cs=[v0,v1])(hs:SeqR R 2 Z w xs A)(hn:xs.length≤140737488355328)(hp:PredF Tryz.prog g lb R w xs p):
  Calls Tryz.prog 78 #[.slice A xs.length cap,.func (.func g) #[] lb] w λe w'=>e= .returned (.int .i64 (firstIdx p xs.length 0))∧Below w.heap.size w w':=by
 have HP:=hid hp;clear hp;go_enter Tryz.func78,Tryz.ntmps78
 go_wp2;go_loopw[8] (λi wr=>∃k:Nat,k≤xs.length∧i= .int .i64 k∧Below w.heap.size w wr∧Hid (∀j,0≤j->j<k->p j=false)) (λi _=>xs.length-(intOf i).toNat);case atStart=>exact⟨0,Nat.zero_le _,rfl,Below.refl _ _,λj _ h=>absurd h (Nat.not_lt_zero j)⟩
 case round=>
  obtain⟨k,hk,rfl,hbel,hno⟩:=hrel;by_cases hlt:k<xs.length
  ·obtain⟨b,off,cs,rfl,hz,hc,hr⟩:=hs.at_ hlt;have HR:=hid hr;obtain⟨v0,v1,rfl⟩:=hR _ _ hr;have hbs:b<w.heap.size:=lt_of_cell (hc 0 _ rfl);have hcb:=cells_below hbel hbs hc;have c0:wr.cell? ⟨b,off+k*2,none⟩=some v0:=hcb 0 _ rfl;have c1:wr.cell? ⟨b,off+k*2+1,none⟩=some v1:=hcb 1 _ rfl;clear hc hs hr hcb;have HC:=hid (HP.out k hlt _ HR.out _ hbel);have HBELW:=hid hbel;clear hbel;cases hpk:p k
   all_goals
    have HPK:=hid hpk;have HC':=HC.out;rw[hpk]at HC';clear hpk;have HC2:=hid HC';clear HC';(go_wp2_with fail);refine HC2.out.mono ?_;rintro e w1 ⟨rfl,hb1⟩;go_wp2
   ·go_roundw
    case rel=>exact⟨k+1,by omega,by go_num,(HBEL_trans HBELW.out hb1),λj h1 h2=>by
     by_cases e:j=k
     ·subst e;exact HPK.out
     ·exact hno.out j h1 (by omega)⟩
    case measure=>simp[intOf];omega
   ·go_ret;exact⟨ret_int (firstIdx_hit hno.out (Nat.zero_le _) (by omega) HPK.out).symm,HBEL_trans HBELW.out hb1⟩
  ·(obtain rfl:k=xs.length:=by omega);go_wp2;go_ret;exact⟨ret_int (firstIdx_miss (λj h1 h2=>hno.out j h1 (by omega))).symm,hbel⟩
theorem containsFuncComponent_any{α:Type}(g:FuncId)(lb:Array Value)(eg:∀args w,(callFunc g args).run Tryz.prog w= .ok (.enter g args) w)(R:List Value->α->Prop)(Z:Zone)(xs:List α)(p:Nat->Bool)(A:Option Addr)(cap:Nat)(w:World)
  (hR:∀cs x,R cs x->∃v0 v1,cs=[v0,v1])(hs:SeqR R 2 Z w xs A)(hn:xs.length≤140737488355328)(hp:PredF Tryz.prog g lb R w xs p):
  Calls Tryz.prog 39 #[.slice A xs.length cap,.func (.func g) #[] lb] w λe w'=>e= .returned (.bool (decide (0≤firstIdx p xs.length 0)))∧Below w.heap.size w w':=by
 have HC:=hid (indexFuncComponent_any g lb eg R Z xs p A cap w hR hs hn hp);clear hp hs;go_enter Tryz.func39,Tryz.ntmps39
 go_wp2_with fail
 refine HC.out.mono ?_;rintro e w1 ⟨rfl,hb1⟩;go_wp2;go_ret;exact⟨rfl,hb1⟩
theorem tidentifier_any(s:ByteArray)(w:World)(hs:s.size≤140737488355328):
  Calls Tryz.prog 49 #[.string s] w λe w'=>e= .returned (.bool (identS s))∧Below w.heap.size w w':=by
 have HL:=hid (lex_any s w hs);have HR:=hid (@identS_no s);have HO:=hid (λt e=> @identS_one s t e);go_enter Tryz.func49,Tryz.ntmps49
 go_wp2_with fail
 refine HL.out.mono ?_;unfold LexPost;rintro e w1 ⟨v,rfl,hown,hb⟩;obtain⟨ts,n,ee⟩:∃x,x=lexS s:=⟨_,rfl⟩;generalize hl:lexS s=L at*;obtain⟨ts,n,ee⟩:=L;dsimp only at*;obtain⟨A,cap,rfl,hcap,hsm,hown2⟩:=Row.of_own hown (by decide);by_cases hn:n=0
 ·subst hn;by_cases h1:ts.length=1
  ·obtain⟨t,rfl⟩:∃t,ts=[t]:=by
    cases ts with
    |nil=>simp at h1
    |cons t r=>cases r with
     |nil=>exact⟨t,rfl⟩
     |cons _ _=>simp at h1
   have HI:=hid (HO.out _ _ rfl);obtain⟨b,off,rfl,hz,hcs⟩:=hown2 (by simp[Tok.cells]);obtain⟨c0,c1,c2,c3⟩:=four_cells (λj u hu=>hcs j u (by simpa[Tok.cells]using hu));clear hcs hl hown2 hown;simp only[List.length_cons,List.length_nil,Nat.zero_add]at*;go_wp2;all_goals(go_ret;exact⟨ret_bool (by rw[HI.out];first|(simp_all;done)|(rw[toList_beq];simp_all)),hb⟩)
  ·have HI:=hid (HR.out (.inr h1));(have h1':((ts.length:Int)==1)=false:=by simp;omega);clear h1 hl;go_wp2;go_ret;exact⟨ret_bool (by rw[HI.out]),hb⟩
 ·have HI:=hid (HR.out (.inl hn));have hn':(n==0)=false:=by simp[hn]
  clear hl;go_wp2;go_ret;exact⟨ret_bool (by rw[HI.out]),hb⟩
theorem pidentifier_any(s:ByteArray)(w:World)(hs:s.size≤140737488355328):
  Calls Tryz.prog 56 #[.string s] w λe w'=>e= .returned (.bool (identS s))∧Below w.heap.size w w':=by
 have HL:=hid (lex_any s w hs);have HR:=hid (@identS_no s);have HO:=hid (λt e=> @identS_one s t e);go_enter Tryz.func56,Tryz.ntmps56
 go_wp2_with fail
 refine HL.out.mono ?_;unfold LexPost;rintro e w1 ⟨v,rfl,hown,hb⟩;obtain⟨ts,n,ee⟩:∃x,x=lexS s:=⟨_,rfl⟩;generalize hl:lexS s=L at*;obtain⟨ts,n,ee⟩:=L;dsimp only at*;obtain⟨A,cap,rfl,hcap,hsm,hown2⟩:=Row.of_own hown (by decide);by_cases hn:n=0
 ·subst hn;by_cases h1:ts.length=1
  ·obtain⟨t,rfl⟩:∃t,ts=[t]:=by
    cases ts with
    |nil=>simp at h1
    |cons t r=>cases r with
     |nil=>exact⟨t,rfl⟩
     |cons _ _=>simp at h1
   have HI:=hid (HO.out _ _ rfl);obtain⟨b,off,rfl,hz,hcs⟩:=hown2 (by simp[Tok.cells]);obtain⟨c0,c1,c2,c3⟩:=four_cells (λj u hu=>hcs j u (by simpa[Tok.cells]using hu));clear hcs hl hown2 hown;simp only[List.length_cons,List.length_nil,Nat.zero_add]at*;go_wp2;all_goals(go_ret;exact⟨ret_bool (by rw[HI.out];first|(simp_all;done)|(rw[toList_beq];simp_all)),hb⟩)
  ·have HI:=hid (HR.out (.inr h1));(have h1':((ts.length:Int)==1)=false:=by simp;omega);clear h1 hl;go_wp2;go_ret;exact⟨ret_bool (by rw[HI.out]),hb⟩
 ·have HI:=hid (HR.out (.inl hn));have hn':(n==0)=false:=by simp[hn]
  clear hl;go_wp2;go_ret;exact⟨ret_bool (by rw[HI.out]),hb⟩
def LineR(Z:Zone)(w:World)(cs:List Value)(x:LineD):Prop:=∃fc,FmR Z w x.when_ fc∧cs=fc++[.string x.cls,.bool x.ctl]∧x.cls.size≤140737488355328
structure LinesR (Z:Zone) (w:World) (v:Value) (l:List LineD):Prop where
 is:∃A cap,v= .slice A l.length cap∧l.length≤cap∧cap≤9223372036854775807∧l.length*64≤140737488355328∧SeqR (LineR Z w) 7 Z w l A
structure TarR (Z:Zone) (w:World) (vd vl:Value) (t:TarD):Prop where
 d:Facts Z w vd t.dom
 l:LinesR Z w vl t.lines
section keep
variable {Z Z':Zone} {w w':World} {v vd vl:Value}
theorem LineR.keep{cs:List Value}{x:LineD}(h:LineR Z w cs x)(hk:Keeps Z w w'):LineR Z w' cs x:=by
 obtain⟨fc,h1,h2,h3⟩:=h;exact⟨fc,FmR.keep hk _ _ h1,h2,h3⟩
theorem LineR.mono{cs:List Value}{x:LineD}(h:LineR Z w cs x)(hz:∀b,Z b->Z' b):LineR Z' w cs x:=by
 obtain⟨fc,h1,h2,h3⟩:=h;exact⟨fc,FmR.mono hz _ _ h1,h2,h3⟩
theorem LinesR.keep{l:List LineD}(h:LinesR Z w v l)(hk:Keeps Z w w'):LinesR Z w' v l:=by
 obtain⟨⟨A,cap,e,h1,h2,h3,h4⟩⟩:=h;exact⟨⟨A,cap,e,h1,h2,h3,h4.imp (λ_ _ h=>h.keep hk) hk (λ_ h=>h)⟩⟩
theorem LinesR.mono{l:List LineD}(h:LinesR Z w v l)(hz:∀b,Z b->Z' b):LinesR Z' w v l:=by
 obtain⟨⟨A,cap,e,h1,h2,h3,h4⟩⟩:=h;exact⟨⟨A,cap,e,h1,h2,h3,h4.imp (λ_ _ h=>h.mono hz) (Keeps.refl Z w) hz⟩⟩
theorem TarR.keep{t:TarD}(h:TarR Z w vd vl t)(hk:Keeps Z w w'):TarR Z w' vd vl t:=⟨h.d.keep hk,h.l.keep hk⟩
theorem TarR.mono{t:TarD}(h:TarR Z w vd vl t)(hz:∀b,Z b->Z' b):TarR Z' w vd vl t:=⟨h.d.mono hz,h.l.mono hz⟩
theorem LineR.form{cs:List Value}{x:LineD}(h:LineR Z w cs x):∃A cap,cs=[.int .i64 x.when_.op,.string x.when_.name,.int .i64 x.when_.cmp,.int .i64 x.when_.num,.slice A x.when_.kids.length cap,.string x.cls,.bool x.ctl]∧
  FmR Z w x.when_ [.int .i64 x.when_.op,.string x.when_.name,.int .i64 x.when_.cmp,.int .i64 x.when_.num,.slice A x.when_.kids.length cap]:=by
 obtain⟨fc,h1,h2,h3⟩:=h;obtain⟨A,cap,rfl⟩:=FmR.form h1;exact⟨A,cap,h2,h1⟩
end keep
def TarD.fine(t:TarD):Prop:=∀x∈t.lines,fsize x.when_≤4000000000000000000
theorem tvalid1_any(Z:Zone)(B:Nat)(vd vl:Value)(ds:List FactD)(x:LineD)(cs:List Value)(w:World)(hx:LineR Z w cs x)(hd:Facts Z w vd ds)(hsz:fsize x.when_≤4000000000000000000)(hz:∀b,Z b->b<w.heap.size)(hB:Blk w B 27 #[vd,vl]):
  Calls Tryz.prog 48 #[.agg cs.toArray,.pointer (some ⟨B,0,none⟩)] w λe w'=>e= .returned (.bool (!lineOk ds x))∧Below w.heap.size w w':=by
 have hcl:x.cls.size≤140737488355328:=by obtain⟨_,_,_,h⟩:=hx;exact h
 obtain⟨A,cap,rfl,hfm⟩:=hx.form;have HI:=hid (λW=>tidentifier_any x.cls W hcl);have HC:=hid (λW(hW:Below w.heap.size w W)=>check_any Z vd ds x.when_ _ W (FmR.keep (Keeps.of_below hW) _ _ hfm) (hd.keep (Keeps.of_below hW)) hsz (λb hb=>Nat.lt_of_lt_of_le (hz b hb) hW.size));unfold lineOk;generalize identS x.cls=b1 at*;generalize checkS ds x.when_=ce at*;have c0:=hB.at0;have bl:=hB.lt;have bx:=Blk.new w 49 #[.int .i64 x.when_.op,.string x.when_.name,.int .i64 x.when_.cmp,.int .i64 x.when_.num,.slice A x.when_.kids.length cap,.string x.cls,.bool x.ctl];have hB0:=below1 w (.cells #[.int .i64 x.when_.op,.string x.when_.name,.int .i64 x.when_.cmp,.int .i64 x.when_.num,.slice A x.when_.kids.length cap,.string x.cls,.bool x.ctl] 49);have c0':=hB.alloc (.cells #[.int .i64 x.when_.op,.string x.when_.name,.int .i64 x.when_.cmp,.int .i64 x.when_.num,.slice A x.when_.kids.length cap,.string x.cls,.bool x.ctl] 49);obtain⟨f0,hf0⟩:∃y,y=x.when_.op:=⟨_,rfl⟩;obtain⟨f1,hf1⟩:∃y,y=x.when_.name:=⟨_,rfl⟩;obtain⟨f2,hf2⟩:∃y,y=x.when_.cmp:=⟨_,rfl⟩;obtain⟨f3,hf3⟩:∃y,y=x.when_.num:=⟨_,rfl⟩;obtain⟨f4,hf4⟩:∃y,y=Value.slice A x.when_.kids.length cap:=⟨_,rfl⟩;obtain⟨cl,hcl'⟩:∃y,y=x.cls:=⟨_,rfl⟩;obtain⟨ct,hct⟩:∃y,y=x.ctl:=⟨_,rfl⟩;rw[<-hf0,<-hf1,<-hf2,<-hf3,<-hf4]at HC bx hB0 c0'⊢;rw[<-hcl']at HI bx hB0 c0'⊢;rw[<-hct]at bx hB0 c0'⊢;clear hf0 hf1 hf2 hf3 hf4 hcl' hct hfm hd hsz hz hcl hB;go_enter Tryz.func48,Tryz.ntmps48
 go_wp2_with fail
 generalize w.alloc (.cells #[.int .i64 f0,.string f1,.int .i64 f2,.int .i64 f3,f4,.string cl,.bool ct] 49)=w0 at*;refine(HI.out _).mono ?_;rintro e w1 ⟨rfl,hb1⟩;have hB1:=HBEL_trans hB0 hb1;cases b1
 ·go_wp2_with fail
  go_ret;exact⟨rfl,hB1⟩
 ·have bx1:=bx.below hb1 bx.lt;have by1:=c0'.below hb1 c0'.lt;have x0:=bx1.at0;have x1:=bx1.at1;have x2:=bx1.at2;have x3:=bx1.at3;have x4:=bx1.at4;have y0:=by1.at0;have yl:=by1.lt;have xl:=bx1.lt;clear hb1 bx bx1 by1 c0 c0' bl hB0 HI;go_wp2_with fail
  refine(HC.out _ hB1).mono ?_;rintro e w2 ⟨rfl,hb2⟩;go_wp2_with fail
  go_ret;refine⟨?_,HBEL_trans hB1 hb2⟩;show Ending.returned (.bool (ce !=0))=_;congr 2
def qAt{α:Type}(xs:List α)(q:α->Bool)(i:Nat):Bool:=match xs[i]? with|some x=>q x|none=>false
theorem qAt_get{α:Type}{xs:List α}{q:α->Bool}{i:Nat}(hi:i<xs.length):qAt xs q i=q xs[i]:=by unfold qAt;rw[List.getElem?_eq_getElem hi]
theorem firstIdx_find{α:Type}(xs:List α)(q:α->Bool):firstIdx (qAt xs q) xs.length 0=if xs.findIdx q<xs.length then((xs.findIdx q:Nat):Int)else-1:=by
 by_cases h:xs.findIdx q<xs.length
 ·rw[if_pos h];refine firstIdx_hit (λj _ hj=> ?_) (Nat.zero_le _) (by omega) ?_
  ·rw[qAt_get (by omega)];have:=List.not_of_lt_findIdx hj;simpa using this
  ·rw[qAt_get h];exact List.findIdx_getElem (w:=h)
 ·rw[if_neg h];refine firstIdx_miss λj _ hj=> ?_
  rw[qAt_get (by omega)]
  cases hq:q xs[j]with
  |false=>rfl
  |true=>exact absurd (List.findIdx_lt_length.2 ⟨_,List.getElem_mem _,hq⟩) h
theorem firstIdx_has{α:Type}(xs:List α)(q:α->Bool):decide ((0:Int)≤firstIdx (qAt xs q) xs.length 0)=xs.any q:=by
 rw[firstIdx_find];by_cases h:xs.findIdx q<xs.length
 ·rw[if_pos h];obtain⟨x,hx,hq⟩:=List.findIdx_lt_length.1 h;rw[List.any_eq_true.2 ⟨x,hx,hq⟩];exact decide_eq_true (Int.natCast_nonneg _)
 ·rw[if_neg h]
  have:xs.any q=false:=by
   rw[List.any_eq_false];intro x hx hq;exact h (List.findIdx_lt_length.2 ⟨x,hx,hq⟩)
  rw[this];rfl
theorem Tryz.egTV1:∀args w,(callFunc 48 args).run Tryz.prog w= .ok (.enter 48 args) w:=enters_of Tryz.func48 (by kernel_rfl) rfl
theorem LineR.seven{Z:Zone}{w:World}(cs:List Value)(x:LineD)(h:LineR Z w cs x):∃v0 v1 v2 v3 v4 v5 v6,cs=[v0,v1,v2,v3,v4,v5,v6]:=by
 obtain⟨A,cap,e,_⟩:=h.form;exact⟨_,_,_,_,_,_,_,e⟩
theorem tvalid_any(Z:Zone)(vd vl:Value)(t:TarD)(w:World)(h:TarR Z w vd vl t)(hz:∀b,Z b->b<w.heap.size)(hf:t.fine):
  Calls Tryz.prog 20 #[.agg #[vd,vl]] w λe w'=>e= .returned (.bool (validT t))∧Below w.heap.size w w':=by
 have HV:=hid (λW(hW:Below w.heap.size w W)=>factValid_any Z vd t.dom W (h.d.keep (Keeps.of_below hW)));obtain⟨⟨A,cap,rfl,hcap,hcap2,hbytes,hs⟩⟩:=h.l
 have HC:=hid (λW(hW:Below w.heap.size w W) B(hB:Blk W B 27 #[vd,.slice A t.lines.length cap])=>containsFuncLine_any 48 #[.pointer (some ⟨B,0,none⟩)] Tryz.egTV1 (LineR Z W) Z t.lines (qAt t.lines λx=> !lineOk t.dom x) A cap W LineR.seven
  (hs.imp (λ_ _ h=>h.keep (Keeps.of_below hW)) (Keeps.of_below hW) (λ_ h=>h)) (by omega) (λi hi cs hcs W' hW'=>by
   rw[qAt_get hi];have hWW:=HBEL_trans hW hW'
   exact tvalid1_any Z B vd _ t.dom t.lines[i] cs W' (hcs.keep (Keeps.of_below hW')) (h.d.keep (Keeps.of_below hWW)) (hf _ (List.getElem_mem hi)) (λb hb=>Nat.lt_of_lt_of_le (hz b hb) hWW.size) (hB.below hW' hB.lt)))
 have e1:(t.lines.any λx=> !lineOk t.dom x)= !t.lines.all (lineOk t.dom):=by
  rw[Bool.eq_iff_iff];simp
 simp only[firstIdx_has,e1]at HC;unfold validT;generalize t.lines.all (lineOk t.dom)=b4 at*;generalize validDom t.dom=b1 at*;obtain⟨n,hn⟩:∃n,n=t.lines.length:=⟨_,rfl⟩;rw[<-hn]at HC hbytes⊢;obtain⟨b2,h2⟩:∃b,decide (0<n)=b:=⟨_,rfl⟩;obtain⟨b3,h3⟩:∃b,decide ((n:Int)≤100)=b:=⟨_,rfl⟩;have e3:decide (n≤100)=b3:=by rw[<-h3,Bool.eq_iff_iff,decide_eq_true_eq,decide_eq_true_eq];omega
 rw[h2,e3];have hnb:n≤140737488355328:=by omega
 have bk:=Blk.new w 27 #[vd,.slice A n cap];have hB0:=below1 w (.cells #[vd,.slice A n cap] 27);clear h hz hf hs e1 hn e3 hbytes;go_enter Tryz.func20,Tryz.ntmps20
 go_wp2_with fail
 generalize w.alloc (.cells #[vd,.slice A n cap] 27)=w0 at*;refine(HV.out _ hB0).mono ?_;rintro e w1 ⟨rfl,hb1⟩;have bk1:=bk.below hb1 bk.lt;have hB1:=HBEL_trans hB0 hb1;have c1:=bk1.at1;have bl:=bk1.lt;have HC1:=hid (HC.out _ hB1 _ bk1);clear bk hB0 hb1 HV bk1 HC;cases b1
 ·go_wp2_with fail
  go_ret;exact⟨rfl,hB1⟩
 ·cases b2
  ·(go_wp2_with fail);go_ret;exact⟨rfl,hB1⟩
  ·cases b3
   ·(go_wp2_with fail);go_ret;exact⟨rfl,hB1⟩
   ·(go_wp2_with fail);refine HC1.out.mono ?_;rintro e w2 ⟨rfl,hb2⟩;(go_wp2_with fail);go_ret;refine⟨?_,HBEL_trans hB1 hb2⟩;cases b4<;>rfl
end Go.Proofs.YtimmfbnjndndlaaGreatDoor
