/- Texts W3. -/
import Derived.Test.YtonmdbdopchkaaaGreatDoorProg
import Derived.Test.YtonmdbdopchkaaaGreatDoorM3
import Derived.WalkSpells
import Derived.WalkLawsBesides
set_option linter.all false
namespace Go.Proofs.YtonmdbdopchkaaaGreatDoor
open Go.RowKit
set_option maxHeartbeats 1000000
set_option maxRecDepth 100000
theorem zJT{α:Type}(g:FuncId)(lb:Array Value)(eg:∀args w,(callFunc g args).run Tryz.prog w= .ok (.enter g args) w)(R:List Value->α->Prop)(Z:zD)(xs:List α)(p:Nat->Bool)(A:Option Addr)(cap:Nat)(w:World)
  (hR:∀cs x,R cs x->∃v0 v1 v2 v3,cs=[v0,v1,v2,v3])(hs:zAT R 4 Z w xs A)(hn:xs.length≤140737488355328)(hp:zQF Tryz.prog g lb R w xs p):
  Calls Tryz.prog 103 #[.slice A xs.length cap,.func (.func g) #[] lb] w λe w'=>e= .returned (.int .i64 (firstIdx p xs.length 0))∧Below w.heap.size w w':=by
 have HP:=hid hp;clear hp;go_enter Tryz.func103,Tryz.ntmps103
 go_wp2;go_loopw[8] (λi wr=>∃k:Nat,k≤xs.length∧i= .int .i64 k∧Below w.heap.size w wr∧Hid (∀j,0≤j->j<k->p j=false)) (λi _=>xs.length-(intOf i).toNat);case atStart=>exact⟨0,Nat.zero_le _,rfl,Below.refl _ _,λj _ h=>absurd h (Nat.not_lt_zero j)⟩
 case round=>
  obtain⟨k,hk,rfl,hbel,hno⟩:=hrel;by_cases hlt:k<xs.length
  ·obtain⟨b,off,cs,rfl,hz,hc,hr⟩:=hs.at_ hlt;have HR:=hid hr;obtain⟨v0,v1,v2,v3,rfl⟩:=hR _ _ hr;have hbs:b<w.heap.size:=lt_of_cell (zEd hc).1;obtain⟨c0,c1,c2,c3⟩:=zEd (zFK hbel hbs hc);clear hc hs hr;have HC:=hid (HP.out k hlt _ HR.out _ hbel);have zGs:=hid hbel;clear hbel;cases hpk:p k
   all_goals
    have HPK:=hid hpk;have HC':=HC.out;rw[hpk]at HC';clear hpk;have HC2:=hid HC';clear HC';(go_wp2_with fail);refine HC2.out.mono ?_;rintro e w1 ⟨rfl,hb1⟩;go_wp2
   ·go_roundw
    case rel=>exact⟨k+1,by omega,by go_num,(zy zGs.out hb1),λj h1 h2=>by
     by_cases e:j=k
     ·subst e;exact HPK.out
     ·exact hno.out j h1 (by omega)⟩
    case measure=>simp[intOf];omega
   ·go_ret;exact⟨zAD (zCS hno.out (Nat.zero_le _) (by omega) HPK.out).symm,zy zGs.out hb1⟩
  ·(obtain rfl:k=xs.length:=by omega);go_wp2;go_ret;exact⟨zAD (zEN (λj h1 h2=>hno.out j h1 (by omega))).symm,hbel⟩
theorem zJU{α:Type}(g:FuncId)(lb:Array Value)(eg:∀args w,(callFunc g args).run Tryz.prog w= .ok (.enter g args) w)(R:List Value->α->Prop)(Z:zD)(xs:List α)(p:Nat->Bool)(A:Option Addr)(cap:Nat)(w:World)
  (hR:∀cs x,R cs x->∃v0 v1 v2 v3,cs=[v0,v1,v2,v3])(hs:zAT R 4 Z w xs A)(hn:xs.length≤140737488355328)(hp:zQF Tryz.prog g lb R w xs p):
  Calls Tryz.prog 96 #[.slice A xs.length cap,.func (.func g) #[] lb] w λe w'=>e= .returned (.int .i64 (firstIdx p xs.length 0))∧Below w.heap.size w w':=by
 have HP:=hid hp;clear hp;go_enter Tryz.func96,Tryz.ntmps96
 go_wp2;go_loopw[8] (λi wr=>∃k:Nat,k≤xs.length∧i= .int .i64 k∧Below w.heap.size w wr∧Hid (∀j,0≤j->j<k->p j=false)) (λi _=>xs.length-(intOf i).toNat);case atStart=>exact⟨0,Nat.zero_le _,rfl,Below.refl _ _,λj _ h=>absurd h (Nat.not_lt_zero j)⟩
 case round=>
  obtain⟨k,hk,rfl,hbel,hno⟩:=hrel;by_cases hlt:k<xs.length
  ·obtain⟨b,off,cs,rfl,hz,hc,hr⟩:=hs.at_ hlt;have HR:=hid hr;obtain⟨v0,v1,v2,v3,rfl⟩:=hR _ _ hr;have hbs:b<w.heap.size:=lt_of_cell (zEd hc).1;obtain⟨c0,c1,c2,c3⟩:=zEd (zFK hbel hbs hc);clear hc hs hr;have HC:=hid (HP.out k hlt _ HR.out _ hbel);have zGs:=hid hbel;clear hbel;cases hpk:p k
   all_goals
    have HPK:=hid hpk;have HC':=HC.out;rw[hpk]at HC';clear hpk;have HC2:=hid HC';clear HC';(go_wp2_with fail);refine HC2.out.mono ?_;rintro e w1 ⟨rfl,hb1⟩;go_wp2
   ·go_roundw
    case rel=>exact⟨k+1,by omega,by go_num,(zy zGs.out hb1),λj h1 h2=>by
     by_cases e:j=k
     ·subst e;exact HPK.out
     ·exact hno.out j h1 (by omega)⟩
    case measure=>simp[intOf];omega
   ·go_ret;exact⟨zAD (zCS hno.out (Nat.zero_le _) (by omega) HPK.out).symm,zy zGs.out hb1⟩
  ·(obtain rfl:k=xs.length:=by omega);go_wp2;go_ret;exact⟨zAD (zEN (λj h1 h2=>hno.out j h1 (by omega))).symm,hbel⟩
theorem zHb{α:Type}(g:FuncId)(lb:Array Value)(eg:∀args w,(callFunc g args).run Tryz.prog w= .ok (.enter g args) w)(R:List Value->α->Prop)(Z:zD)(xs:List α)(p:Nat->Bool)(A:Option Addr)(cap:Nat)(w:World)
  (hR:∀cs x,R cs x->∃v0 v1 v2 v3,cs=[v0,v1,v2,v3])(hs:zAT R 4 Z w xs A)(hn:xs.length≤140737488355328)(hp:zQF Tryz.prog g lb R w xs p):
  Calls Tryz.prog 56 #[.slice A xs.length cap,.func (.func g) #[] lb] w λe w'=>e= .returned (.bool (decide (0≤firstIdx p xs.length 0)))∧Below w.heap.size w w':=by
 have HC:=hid (zJU g lb eg R Z xs p A cap w hR hs hn hp);clear hp hs;go_enter Tryz.func56,Tryz.ntmps56
 go_wp2_with fail
 refine HC.out.mono ?_;rintro e w1 ⟨rfl,hb1⟩;go_wp2;go_ret;exact⟨rfl,hb1⟩
end Go.Proofs.YtonmdbdopchkaaaGreatDoor
