/- Lemmas. -/
import Derived.Test.YtommaegelgilnaaGreatDoorProg
import Derived.Test.YtommaegelgilnaaGreatDoorM6
import Derived.Test.YtommaegelgilnaaGreatDoorM5
import Derived.WalkSpells
import Derived.WalkLawsBesides
set_option linter.all false
namespace Go.Proofs.YtommaegelgilnaaGreatDoor
open Go.RowKit
set_option maxHeartbeats 1000000
set_option maxRecDepth 100000
theorem zRA(s:ByteArray)(v:s.size<=140737488355328)(w:World):
  Calls Tryz.prog 97 #[.string s] w λe w'=>e= .returned (.bool (zB6 s.data.toList))/\w=w':=by
 go_enter Tryz.func97,Tryz.ntmps97
 go_wp2;go_loop[9] (λi=>∃k:Nat,k<=s.size/\i= .int .i64 k/\Hid (zGl s.data.toList k)) (λi=>s.size-(intOf i).toNat);case atStart=>exact⟨0,Nat.zero_le _,rfl,zHY _⟩
 case round=>
  obtain⟨k,u,rfl,q⟩:=hrel;by_cases j:k<s.size
  ·have h:=zJS j;have g:=hid h;clear h
   repeat' (first|(go_big_may;fail)|((with_reducible apply zBU);rfl;first|((with_reducible apply zBT);rfl;rfl;rfl;exact zAn.app;intro m f;(simp only[nr]))|((with_reducible apply zBM);rfl;rfl;rfl;exact zAn.app;intro m f;(simp only[nr]))|((with_reducible apply zAk);rfl;rfl;rfl;rfl;exact(by constructor);rfl;(simp only[nr]))|((with_reducible apply zA9);rfl;first|((with_reducible apply zAJ);rfl;rfl;rfl;exact(by constructor);rfl;rfl;rfl;rfl;(simp only[nr]))|((with_reducible apply zAS);rfl;rfl;rfl;exact(by constructor);rfl;rfl;rfl;rfl;(simp only[nr])))|((with_reducible apply zAF);rfl;rfl;rfl;exact(by constructor);(intro a;(try simp only[Bool.and_eq_true,Bool.not_eq_true']at a);(first|subst a|(obtain⟨c,d⟩:=a;subst c;subst d)|(obtain⟨⟨c,d⟩,o⟩:=a;subst c;subst d;subst o));(try simp only[zm,z7,Bool.not_true,Bool.not_false,Bool.true_and,Bool.false_and,Bool.and_self]);go_simp;with_reducible rfl);(simp only[nr])))|((with_reducible apply zAj);rfl;rfl;first|((with_reducible apply zAg);rfl;rfl;rfl;rfl;(simp only[nr]))|((with_reducible apply zAh);rfl;rfl;rfl;rfl;(simp only[nr]))|((with_reducible apply zAR);rfl;rfl;rfl;rfl;rfl;(simp only[nr]))|((with_reducible apply zA7);rfl;rfl;rfl;rfl;rfl;(simp only[nr])))|go_values|go_guarded|go_step|go_upon|go_back|dsimp only)
   ·go_ret;refine⟨zI (b:=zB6 s.data.toList) ?_,rfl⟩;rw[zGm (k:=k) (by simpa using j)];rw[g.out];simp only[Hid]at*
    subst_vars
    simp only[decide_eq_false_iff_not];simp at*;omega
   ·go_round
    case rel=>
     refine⟨k+1,by omega,by go_num,zCK q ?_⟩;rw[g.out];simp only[Hid]at*
     subst_vars
     simp only[decide_eq_true_eq];simp at*;omega
    case measure=>simp[intOf];omega
  ·(obtain rfl:k=s.size:=by omega);have he:=zIR (l:=s.data.toList) (by simpa using q.out);have t:=hid he;clear he q
   repeat' (first|(go_big_may;fail)|((with_reducible apply zBU);rfl;first|((with_reducible apply zBT);rfl;rfl;rfl;exact zAn.app;intro m f;(simp only[nr]))|((with_reducible apply zBM);rfl;rfl;rfl;exact zAn.app;intro m f;(simp only[nr]))|((with_reducible apply zAk);rfl;rfl;rfl;rfl;exact(by constructor);rfl;(simp only[nr]))|((with_reducible apply zA9);rfl;first|((with_reducible apply zAJ);rfl;rfl;rfl;exact(by constructor);rfl;rfl;rfl;rfl;(simp only[nr]))|((with_reducible apply zAS);rfl;rfl;rfl;exact(by constructor);rfl;rfl;rfl;rfl;(simp only[nr])))|((with_reducible apply zAF);rfl;rfl;rfl;exact(by constructor);(intro a;(try simp only[Bool.and_eq_true,Bool.not_eq_true']at a);(first|subst a|(obtain⟨c,d⟩:=a;subst c;subst d)|(obtain⟨⟨c,d⟩,o⟩:=a;subst c;subst d;subst o));(try simp only[zm,z7,Bool.not_true,Bool.not_false,Bool.true_and,Bool.false_and,Bool.and_self]);go_simp;with_reducible rfl);(simp only[nr])))|((with_reducible apply zAj);rfl;rfl;first|((with_reducible apply zAg);rfl;rfl;rfl;rfl;(simp only[nr]))|((with_reducible apply zAh);rfl;rfl;rfl;rfl;(simp only[nr]))|((with_reducible apply zAR);rfl;rfl;rfl;rfl;rfl;(simp only[nr]))|((with_reducible apply zA7);rfl;rfl;rfl;rfl;rfl;(simp only[nr])))|go_values|go_guarded|go_step|go_upon|go_back|dsimp only)
   go_ret;refine⟨zI (b:=zB6 s.data.toList) ?_,rfl⟩;rw[t.out];simp only[Hid]at*
   subst_vars
   (have n:decide ((s.size:Int)<=24)=decide (s.size<=24):=by rw[Bool.eq_iff_iff];simp only[decide_eq_true_eq];omega);rw[n,ByteArray.toList_eq,show s.data.toList.isEmpty=decide (s.data.toList=[]) from by rw[Bool.eq_iff_iff];simp];simp
end Go.Proofs.YtommaegelgilnaaGreatDoor
