/- Texts W3. -/
import Derived.Test.YthpocbeoanipbaaGreatDoorProg
import Derived.Test.YthpocbeoanipbaaGreatDoorM2
import Derived.WalkSpells
import Derived.WalkLawsBesides
set_option linter.all false
namespace Go.Proofs.YthpocbeoanipbaaGreatDoor
open Go.RowKit Go.Proofs.Tryz
set_option maxHeartbeats 1000000
set_option maxRecDepth 100000
variable{α:Type}
theorem zKd(g:FuncId)(D:Array Value)(L:∀args w,(callFunc g args).run prog w= .ok (.enter g args) w)(R:List Value->α->Prop)(Z:zE)(xs:List α)(p:Nat->Bool)(A:Option Addr)(t:Nat)(w:World)
  (I:∀cs x,R cs x->∃v0 v1 v2 v3,cs=[v0,v1,v2,v3])(C:zm R 4 Z w xs A)(N:xs.length<=140737488355328)(B:zIf prog g D R w xs p):
  Calls prog 64 #[.slice A xs.length t,.func (.func g) #[] D] w λe w'=>e= .returned (.int .i64 (firstIdx p xs.length 0))/\Bw w w':=by
 have F:=hid B;clear B;go_enter func64,ntmps64
 go_wp2;go_loopw[8] (λi wr=>∃k:Nat,k<=xs.length/\i= .int .i64 k/\Bw w wr/\Hid (∀j,0<=j->j<k->p j=false)) (λi _=>xs.length-(intOf i).toNat);case atStart=>exact⟨0,Nat.zero_le _,rfl,Below.refl _ _,λj _ h=>absurd h (Nat.not_lt_zero j)⟩
 case round=>
  obtain⟨k,M,rfl,a,f⟩:=hrel;by_cases q:k<xs.length
  ·obtain⟨b,J,cs,rfl,O,y,z⟩:=C.at_ q;have G:=hid z;obtain⟨v0,v1,v2,v3,rfl⟩:=I _ _ z;have v:b<w.heap.size:=lt_of_cell (zEN y).1;obtain⟨K,c1,c2,c3⟩:=zEN (zBV a v y);clear y C z;have E:=hid (F.out k q _ G.out _ a);have c:=hid a;clear a;cases m:p k
   all_goals
    have n:=hid m;have d:=E.out;rw[m]at d;clear m;have s:=hid d;clear d;(go_wp2_with fail);refine s.out.mono ?_;rintro e P ⟨rfl,o⟩;go_wp2
   ·go_roundw
    case rel=>exact⟨k+1,by omega,by go_num,(zD c.out o),λj u H=>by
     by_cases e:j=k
     ·subst e;exact n.out
     ·exact f.out j u (by omega)⟩
    case measure=>simp[intOf];omega
   ·go_ret;exact⟨zAp (zBx f.out (Nat.zero_le _) (by omega) n.out).symm,zD c.out o⟩
  ·(obtain rfl:k=xs.length:=by omega);go_wp2;go_ret;exact⟨zAp (zCb (λj u H=>f.out j u (by omega))).symm,a⟩
theorem zKe(g:FuncId)(D:Array Value)(L:∀args w,(callFunc g args).run prog w= .ok (.enter g args) w)(R:List Value->α->Prop)(Z:zE)(xs:List α)(p:Nat->Bool)(A:Option Addr)(t:Nat)(w:World)
  (I:∀cs x,R cs x->∃v0 v1 v2 v3,cs=[v0,v1,v2,v3])(C:zm R 4 Z w xs A)(N:xs.length<=140737488355328)(B:zIf prog g D R w xs p):
  Calls prog 130 #[.slice A xs.length t,.func (.func g) #[] D] w λe w'=>e= .returned (.int .i64 (firstIdx p xs.length 0))/\Bw w w':=by
 have F:=hid B;clear B;go_enter func130,ntmps130
 go_wp2;go_loopw[8] (λi wr=>∃k:Nat,k<=xs.length/\i= .int .i64 k/\Bw w wr/\Hid (∀j,0<=j->j<k->p j=false)) (λi _=>xs.length-(intOf i).toNat);case atStart=>exact⟨0,Nat.zero_le _,rfl,Below.refl _ _,λj _ h=>absurd h (Nat.not_lt_zero j)⟩
 case round=>
  obtain⟨k,M,rfl,a,f⟩:=hrel;by_cases q:k<xs.length
  ·obtain⟨b,J,cs,rfl,O,y,z⟩:=C.at_ q;have G:=hid z;obtain⟨v0,v1,v2,v3,rfl⟩:=I _ _ z;have v:b<w.heap.size:=lt_of_cell (zEN y).1;obtain⟨K,c1,c2,c3⟩:=zEN (zBV a v y);clear y C z;have E:=hid (F.out k q _ G.out _ a);have c:=hid a;clear a;cases m:p k
   all_goals
    have n:=hid m;have d:=E.out;rw[m]at d;clear m;have s:=hid d;clear d;(go_wp2_with fail);refine s.out.mono ?_;rintro e P ⟨rfl,o⟩;go_wp2
   ·go_roundw
    case rel=>exact⟨k+1,by omega,by go_num,(zD c.out o),λj u H=>by
     by_cases e:j=k
     ·subst e;exact n.out
     ·exact f.out j u (by omega)⟩
    case measure=>simp[intOf];omega
   ·go_ret;exact⟨zAp (zBx f.out (Nat.zero_le _) (by omega) n.out).symm,zD c.out o⟩
  ·(obtain rfl:k=xs.length:=by omega);go_wp2;go_ret;exact⟨zAp (zCb (λj u H=>f.out j u (by omega))).symm,a⟩
theorem zJC(g:FuncId)(D:Array Value)(L:∀args w,(callFunc g args).run prog w= .ok (.enter g args) w)(R:List Value->α->Prop)(Z:zE)(xs:List α)(p:Nat->Bool)(A:Option Addr)(t:Nat)(w:World)
  (I:∀cs x,R cs x->∃v0 v1 v2 v3 v4,cs=[v0,v1,v2,v3,v4])(C:zm R 5 Z w xs A)(N:xs.length<=140737488355328)(B:zIf prog g D R w xs p):
  Calls prog 66 #[.slice A xs.length t,.func (.func g) #[] D] w λe w'=>e= .returned (.int .i64 (firstIdx p xs.length 0))/\Bw w w':=by
 have F:=hid B;clear B;go_enter func66,ntmps66
 go_wp2;go_loopw[8] (λi wr=>∃k:Nat,k<=xs.length/\i= .int .i64 k/\Bw w wr/\Hid (∀j,0<=j->j<k->p j=false)) (λi _=>xs.length-(intOf i).toNat);case atStart=>exact⟨0,Nat.zero_le _,rfl,Below.refl _ _,λj _ h=>absurd h (Nat.not_lt_zero j)⟩
 case round=>
  obtain⟨k,M,rfl,a,f⟩:=hrel;by_cases q:k<xs.length
  ·obtain⟨b,J,cs,rfl,O,y,z⟩:=C.at_ q;have G:=hid z;obtain⟨v0,v1,v2,v3,v4,rfl⟩:=I _ _ z;have v:b<w.heap.size:=lt_of_cell (zx y).1;obtain⟨K,c1,c2,c3,c4⟩:=zx (zBV a v y);clear y C z;have E:=hid (F.out k q _ G.out _ a);have c:=hid a;clear a;cases m:p k
   all_goals
    have n:=hid m;have d:=E.out;rw[m]at d;clear m;have s:=hid d;clear d;(go_wp2_with fail);refine s.out.mono ?_;rintro e P ⟨rfl,o⟩;go_wp2
   ·go_roundw
    case rel=>exact⟨k+1,by omega,by go_num,(zD c.out o),λj u H=>by
     by_cases e:j=k
     ·subst e;exact n.out
     ·exact f.out j u (by omega)⟩
    case measure=>simp[intOf];omega
   ·go_ret;exact⟨zAp (zBx f.out (Nat.zero_le _) (by omega) n.out).symm,zD c.out o⟩
  ·(obtain rfl:k=xs.length:=by omega);go_wp2;go_ret;exact⟨zAp (zCb (λj u H=>f.out j u (by omega))).symm,a⟩
theorem zJD(g:FuncId)(c:Array Value)(i:∀args w,(callFunc g args).run prog w= .ok (.enter g args) w)(R:List Value->α->Prop)(Z:zE)(xs:List α)(p:Nat->Bool)(A:Option Addr)(a:Nat)(w:World)
  (j:∀cs x,R cs x->∃v0 v1 v2 v3,cs=[v0,v1,v2,v3])(f:zm R 4 Z w xs A)(k:xs.length<=140737488355328)(d:zIf prog g c R w xs p):
  Calls prog 99 #[.slice A xs.length a,.func (.func g) #[] c] w λe w'=>e= .returned (.bool (decide (0<=firstIdx p xs.length 0)))/\Bw w w':=by
 have h:=hid (zKe g c i R Z xs p A a w j f k d);clear d f;go_enter func99,ntmps99
 go_wp2_with fail
 refine h.out.mono ?_;rintro e m ⟨rfl,b⟩;go_wp2;go_ret;exact⟨rfl,b⟩
theorem zEY(g:FuncId)(c:Array Value)(i:∀args w,(callFunc g args).run prog w= .ok (.enter g args) w)(R:List Value->α->Prop)(Z:zE)(xs:List α)(p:Nat->Bool)(A:Option Addr)(a:Nat)(w:World)
  (j:∀cs x,R cs x->∃v0 v1 v2 v3 v4,cs=[v0,v1,v2,v3,v4])(f:zm R 5 Z w xs A)(k:xs.length<=140737488355328)(d:zIf prog g c R w xs p):
  Calls prog 36 #[.slice A xs.length a,.func (.func g) #[] c] w λe w'=>e= .returned (.bool (decide (0<=firstIdx p xs.length 0)))/\Bw w w':=by
 have h:=hid (zJC g c i R Z xs p A a w j f k d);clear d f;go_enter func36,ntmps36
 go_wp2_with fail
 refine h.out.mono ?_;rintro e m ⟨rfl,b⟩;go_wp2;go_ret;exact⟨rfl,b⟩
end Go.Proofs.YthpocbeoanipbaaGreatDoor
