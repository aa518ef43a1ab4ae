/- Lemmas. -/
import Derived.Test.YtommaegelgilnaaGreatDoorProg
import Derived.Test.YtommaegelgilnaaGreatDoorM3
import Derived.Test.YtommaegelgilnaaGreatDoorM2
import Derived.WalkSpells
import Derived.WalkLawsBesides
set_option linter.all false
namespace Go.Proofs.YtommaegelgilnaaGreatDoor
open Go.RowKit Go.Proofs.Tryz
set_option maxHeartbeats 1000000
set_option maxRecDepth 100000
variable {α:Type}
theorem zJ5(g:FuncId)(lb:Array Value)(J:∀args w,(callFunc g args).run prog w= .ok (.enter g args) w)(R:List Value->α->Prop)(Z:zD)(xs:List α)(p:Nat->Bool)(A:Option Addr)(cap:Nat)(w:World)
  (G:∀cs x,R cs x->∃v0 v1 v2 v3,cs=[v0,v1,v2,v3])(B:zAW R 4 Z w xs A)(L:xs.length<=140737488355328)(z:zLD prog g lb R w xs p):
  Calls prog 205 #[.slice A xs.length cap,.func (.func g) #[] lb] w λe w'=>e= .returned (.int .i64 (firstIdx p xs.length 0))/\Bw w w':=by
 have D:=hid z;clear z;go_enter func205,ntmps205
 go_wp2;go_loopw[8] (λi wr=>∃k:Nat,k<=xs.length/\i= .int .i64 k/\Bw w wr/\Hid (∀j,0<=j->j<k->p j=false)) (λi _=>xs.length-(intOf i).toNat);case atStart=>exact⟨0,Nat.zero_le _,rfl,Below.refl _ _,λj _ h=>absurd h (Nat.not_lt_zero j)⟩
 case round=>
  obtain⟨k,K,rfl,a,f⟩:=hrel;by_cases q:k<xs.length
  ·obtain⟨b,H,cs,rfl,M,v,y⟩:=B.at_ q;have E:=hid y;obtain⟨v0,v1,v2,v3,rfl⟩:=G _ _ y;have u:b<w.heap.size:=lt_of_cell (zEQ v).1;obtain⟨I,c1,c2,c3⟩:=zEQ (zDj a u v);clear v B y;have C:=hid (D k q _ E _ a);have c:=hid a;clear a;cases m:p k
   all_goals
    have n:=hid m;have d:=C.out;rw[m]at d;clear m;have s:=hid d;clear d;(go_wp2_with fail);refine s.mono ?_;rintro e N ⟨rfl,o⟩;go_wp2
   ·go_roundw
    case rel=>exact⟨k+1,by omega,by go_num,(zC c o),λj t F=>by
     by_cases e:j=k
     ·subst e;exact n.out
     ·exact f j t (by omega)⟩
    case measure=>simp[intOf];omega
   ·go_ret;exact⟨zAz (zCr f (Nat.zero_le _) (by omega) n).symm,zC c o⟩
  ·(obtain rfl:k=xs.length:=by omega);go_wp2;go_ret;exact⟨zAz (zDd (λj t F=>f j t (by omega))).symm,a⟩
theorem zJ6(g:FuncId)(lb:Array Value)(J:∀args w,(callFunc g args).run prog w= .ok (.enter g args) w)(R:List Value->α->Prop)(Z:zD)(xs:List α)(p:Nat->Bool)(A:Option Addr)(cap:Nat)(w:World)
  (G:∀cs x,R cs x->∃v0 v1 v2 v3,cs=[v0,v1,v2,v3])(B:zAW R 4 Z w xs A)(L:xs.length<=140737488355328)(z:zLD prog g lb R w xs p):
  Calls prog 179 #[.slice A xs.length cap,.func (.func g) #[] lb] w λe w'=>e= .returned (.int .i64 (firstIdx p xs.length 0))/\Bw w w':=by
 have D:=hid z;clear z;go_enter func179,ntmps179
 go_wp2;go_loopw[8] (λi wr=>∃k:Nat,k<=xs.length/\i= .int .i64 k/\Bw w wr/\Hid (∀j,0<=j->j<k->p j=false)) (λi _=>xs.length-(intOf i).toNat);case atStart=>exact⟨0,Nat.zero_le _,rfl,Below.refl _ _,λj _ h=>absurd h (Nat.not_lt_zero j)⟩
 case round=>
  obtain⟨k,K,rfl,a,f⟩:=hrel;by_cases q:k<xs.length
  ·obtain⟨b,H,cs,rfl,M,v,y⟩:=B.at_ q;have E:=hid y;obtain⟨v0,v1,v2,v3,rfl⟩:=G _ _ y;have u:b<w.heap.size:=lt_of_cell (zEQ v).1;obtain⟨I,c1,c2,c3⟩:=zEQ (zDj a u v);clear v B y;have C:=hid (D k q _ E _ a);have c:=hid a;clear a;cases m:p k
   all_goals
    have n:=hid m;have d:=C.out;rw[m]at d;clear m;have s:=hid d;clear d;(go_wp2_with fail);refine s.mono ?_;rintro e N ⟨rfl,o⟩;go_wp2
   ·go_roundw
    case rel=>exact⟨k+1,by omega,by go_num,(zC c o),λj t F=>by
     by_cases e:j=k
     ·subst e;exact n.out
     ·exact f j t (by omega)⟩
    case measure=>simp[intOf];omega
   ·go_ret;exact⟨zAz (zCr f (Nat.zero_le _) (by omega) n).symm,zC c o⟩
  ·(obtain rfl:k=xs.length:=by omega);go_wp2;go_ret;exact⟨zAz (zDd (λj t F=>f j t (by omega))).symm,a⟩
theorem zIN(g:FuncId)(lb:Array Value)(J:∀args w,(callFunc g args).run prog w= .ok (.enter g args) w)(R:List Value->α->Prop)(Z:zD)(xs:List α)(p:Nat->Bool)(A:Option Addr)(cap:Nat)(w:World)
  (G:∀cs x,R cs x->∃v0 v1 v2 v3 v4,cs=[v0,v1,v2,v3,v4])(B:zAW R 5 Z w xs A)(L:xs.length<=140737488355328)(z:zLD prog g lb R w xs p):
  Calls prog 207 #[.slice A xs.length cap,.func (.func g) #[] lb] w λe w'=>e= .returned (.int .i64 (firstIdx p xs.length 0))/\Bw w w':=by
 have D:=hid z;clear z;go_enter func207,ntmps207
 go_wp2;go_loopw[8] (λi wr=>∃k:Nat,k<=xs.length/\i= .int .i64 k/\Bw w wr/\Hid (∀j,0<=j->j<k->p j=false)) (λi _=>xs.length-(intOf i).toNat);case atStart=>exact⟨0,Nat.zero_le _,rfl,Below.refl _ _,λj _ h=>absurd h (Nat.not_lt_zero j)⟩
 case round=>
  obtain⟨k,K,rfl,a,f⟩:=hrel;by_cases q:k<xs.length
  ·obtain⟨b,H,cs,rfl,M,v,y⟩:=B.at_ q;have E:=hid y;obtain⟨v0,v1,v2,v3,v4,rfl⟩:=G _ _ y;have u:b<w.heap.size:=lt_of_cell (zAL v).1;obtain⟨I,c1,c2,c3,c4⟩:=zAL (zDj a u v);clear v B y;have C:=hid (D k q _ E _ a);have c:=hid a;clear a;cases m:p k
   all_goals
    have n:=hid m;have d:=C.out;rw[m]at d;clear m;have s:=hid d;clear d;(go_wp2_with fail);refine s.mono ?_;rintro e N ⟨rfl,o⟩;go_wp2
   ·go_roundw
    case rel=>exact⟨k+1,by omega,by go_num,(zC c o),λj t F=>by
     by_cases e:j=k
     ·subst e;exact n.out
     ·exact f j t (by omega)⟩
    case measure=>simp[intOf];omega
   ·go_ret;exact⟨zAz (zCr f (Nat.zero_le _) (by omega) n).symm,zC c o⟩
  ·(obtain rfl:k=xs.length:=by omega);go_wp2;go_ret;exact⟨zAz (zDd (λj t F=>f j t (by omega))).symm,a⟩
theorem zIO(g:FuncId)(lb:Array Value)(f:∀args w,(callFunc g args).run prog w= .ok (.enter g args) w)(R:List Value->α->Prop)(Z:zD)(xs:List α)(p:Nat->Bool)(A:Option Addr)(cap:Nat)(w:World)
  (h:∀cs x,R cs x->∃v0 v1 v2 v3,cs=[v0,v1,v2,v3])(c:zAW R 4 Z w xs A)(i:xs.length<=140737488355328)(b:zLD prog g lb R w xs p):
  Calls prog 128 #[.slice A xs.length cap,.func (.func g) #[] lb] w λe w'=>e= .returned (.bool (decide (0<=firstIdx p xs.length 0)))/\Bw w w':=by
 have d:=hid (zJ6 g lb f R Z xs p A cap w h c i b);clear b c;go_enter func128,ntmps128
 go_wp2_with fail
 refine d.mono ?_;rintro e j ⟨rfl,a⟩;go_wp2;go_ret;exact⟨rfl,a⟩
theorem zEW(g:FuncId)(lb:Array Value)(f:∀args w,(callFunc g args).run prog w= .ok (.enter g args) w)(R:List Value->α->Prop)(Z:zD)(xs:List α)(p:Nat->Bool)(A:Option Addr)(cap:Nat)(w:World)
  (h:∀cs x,R cs x->∃v0 v1 v2 v3 v4,cs=[v0,v1,v2,v3,v4])(c:zAW R 5 Z w xs A)(i:xs.length<=140737488355328)(b:zLD prog g lb R w xs p):
  Calls prog 151 #[.slice A xs.length cap,.func (.func g) #[] lb] w λe w'=>e= .returned (.bool (decide (0<=firstIdx p xs.length 0)))/\Bw w w':=by
 have d:=hid (zIN g lb f R Z xs p A cap w h c i b);clear b c;go_enter func151,ntmps151
 go_wp2_with fail
 refine d.mono ?_;rintro e j ⟨rfl,a⟩;go_wp2;go_ret;exact⟨rfl,a⟩
end Go.Proofs.YtommaegelgilnaaGreatDoor
