/- Texts W3. -/
import Derived.Test.YtimmfbnjndndlaaGreatDoorProg
import Derived.Test.YtimmfbnjndndlaaGreatDoorM5
import Derived.WalkSpells
import Derived.WalkLawsBesides
set_option linter.all false
namespace Go.Proofs.YtimmfbnjndndlaaGreatDoor
open Go.RowKit
set_option maxHeartbeats 1000000
set_option maxRecDepth 100000
theorem indexFuncFact_any{α:Type}(g:FuncId)(lb:Array Value)(eg:∀args w,(callFunc g args).run Tryz.prog w= .ok (.enter g args) w)(R:List Value->α->Prop)(Z:Zone)(xs:List α)(p:Nat->Bool)(A:Option Addr)(cap:Nat)(w:World)
  (hR:∀cs x,R cs x->∃v0 v1 v2 v3,cs=[v0,v1,v2,v3])(hs:SeqR R 4 Z w xs A)(hn:xs.length≤140737488355328)(hp:PredF Tryz.prog g lb R w xs p):
  Calls Tryz.prog 90 #[.slice A xs.length cap,.func (.func g) #[] lb] w λe w'=>e= .returned (.int .i64 (firstIdx p xs.length 0))∧Below w.heap.size w w':=by
 have HP:=hid hp;clear hp;go_enter Tryz.func90,Tryz.ntmps90
 go_wp2;go_loopw[8] (λi wr=>∃k:Nat,k≤xs.length∧i= .int .i64 k∧Below w.heap.size w wr∧Hid (∀j,0≤j->j<k->p j=false)) (λi _=>xs.length-(intOf i).toNat);case atStart=>exact⟨0,Nat.zero_le _,rfl,Below.refl _ _,λj _ h=>absurd h (Nat.not_lt_zero j)⟩
 case round=>
  obtain⟨k,hk,rfl,hbel,hno⟩:=hrel;by_cases hlt:k<xs.length
  ·obtain⟨b,off,cs,rfl,hz,hc,hr⟩:=hs.at_ hlt;have HR:=hid hr;obtain⟨v0,v1,v2,v3,rfl⟩:=hR _ _ hr;have hbs:b<w.heap.size:=lt_of_cell (four_cells hc).1;obtain⟨c0,c1,c2,c3⟩:=four_cells (cells_below hbel hbs hc);clear hc hs hr;have HC:=hid (HP.out k hlt _ HR.out _ hbel);have HBELW:=hid hbel;clear hbel;cases hpk:p k
   all_goals
    have HPK:=hid hpk;have HC':=HC.out;rw[hpk]at HC';clear hpk;have HC2:=hid HC';clear HC';(go_wp2_with fail);refine HC2.out.mono ?_;rintro e w1 ⟨rfl,hb1⟩;go_wp2
   ·go_roundw
    case rel=>exact⟨k+1,by omega,by go_num,(HBEL_trans HBELW.out hb1),λj h1 h2=>by
     by_cases e:j=k
     ·subst e;exact HPK.out
     ·exact hno.out j h1 (by omega)⟩
    case measure=>simp[intOf];omega
   ·go_ret;exact⟨ret_int (firstIdx_hit hno.out (Nat.zero_le _) (by omega) HPK.out).symm,HBEL_trans HBELW.out hb1⟩
  ·(obtain rfl:k=xs.length:=by omega);go_wp2;go_ret;exact⟨ret_int (firstIdx_miss (λj h1 h2=>hno.out j h1 (by omega))).symm,hbel⟩
theorem indexFuncFormula_any{α:Type}(g:FuncId)(lb:Array Value)(eg:∀args w,(callFunc g args).run Tryz.prog w= .ok (.enter g args) w)(R:List Value->α->Prop)(Z:Zone)(xs:List α)(p:Nat->Bool)(A:Option Addr)(cap:Nat)(w:World)
  (hR:∀cs x,R cs x->∃v0 v1 v2 v3 v4,cs=[v0,v1,v2,v3,v4])(hs:SeqR R 5 Z w xs A)(hn:xs.length≤140737488355328)(hp:PredF Tryz.prog g lb R w xs p):
  Calls Tryz.prog 92 #[.slice A xs.length cap,.func (.func g) #[] lb] w λe w'=>e= .returned (.int .i64 (firstIdx p xs.length 0))∧Below w.heap.size w w':=by
 have HP:=hid hp;clear hp;go_enter Tryz.func92,Tryz.ntmps92
 go_wp2;go_loopw[8] (λi wr=>∃k:Nat,k≤xs.length∧i= .int .i64 k∧Below w.heap.size w wr∧Hid (∀j,0≤j->j<k->p j=false)) (λi _=>xs.length-(intOf i).toNat);case atStart=>exact⟨0,Nat.zero_le _,rfl,Below.refl _ _,λj _ h=>absurd h (Nat.not_lt_zero j)⟩
 case round=>
  obtain⟨k,hk,rfl,hbel,hno⟩:=hrel;by_cases hlt:k<xs.length
  ·obtain⟨b,off,cs,rfl,hz,hc,hr⟩:=hs.at_ hlt;have HR:=hid hr;obtain⟨v0,v1,v2,v3,v4,rfl⟩:=hR _ _ hr;have hbs:b<w.heap.size:=lt_of_cell (five_cells hc).1;obtain⟨c0,c1,c2,c3,c4⟩:=five_cells (cells_below hbel hbs hc);clear hc hs hr;have HC:=hid (HP.out k hlt _ HR.out _ hbel);have HBELW:=hid hbel;clear hbel;cases hpk:p k
   all_goals
    have HPK:=hid hpk;have HC':=HC.out;rw[hpk]at HC';clear hpk;have HC2:=hid HC';clear HC';(go_wp2_with fail);refine HC2.out.mono ?_;rintro e w1 ⟨rfl,hb1⟩;go_wp2
   ·go_roundw
    case rel=>exact⟨k+1,by omega,by go_num,(HBEL_trans HBELW.out hb1),λj h1 h2=>by
     by_cases e:j=k
     ·subst e;exact HPK.out
     ·exact hno.out j h1 (by omega)⟩
    case measure=>simp[intOf];omega
   ·go_ret;exact⟨ret_int (firstIdx_hit hno.out (Nat.zero_le _) (by omega) HPK.out).symm,HBEL_trans HBELW.out hb1⟩
  ·(obtain rfl:k=xs.length:=by omega);go_wp2;go_ret;exact⟨ret_int (firstIdx_miss (λj h1 h2=>hno.out j h1 (by omega))).symm,hbel⟩
theorem containsFuncFormula_any{α:Type}(g:FuncId)(lb:Array Value)(eg:∀args w,(callFunc g args).run Tryz.prog w= .ok (.enter g args) w)(R:List Value->α->Prop)(Z:Zone)(xs:List α)(p:Nat->Bool)(A:Option Addr)(cap:Nat)(w:World)
  (hR:∀cs x,R cs x->∃v0 v1 v2 v3 v4,cs=[v0,v1,v2,v3,v4])(hs:SeqR R 5 Z w xs A)(hn:xs.length≤140737488355328)(hp:PredF Tryz.prog g lb R w xs p):
  Calls Tryz.prog 60 #[.slice A xs.length cap,.func (.func g) #[] lb] w λe w'=>e= .returned (.bool (decide (0≤firstIdx p xs.length 0)))∧Below w.heap.size w w':=by
 have HC:=hid (indexFuncFormula_any g lb eg R Z xs p A cap w hR hs hn hp);clear hp hs;go_enter Tryz.func60,Tryz.ntmps60
 go_wp2_with fail
 refine HC.out.mono ?_;rintro e w1 ⟨rfl,hb1⟩;go_wp2;go_ret;exact⟨rfl,hb1⟩
end Go.Proofs.YtimmfbnjndndlaaGreatDoor
