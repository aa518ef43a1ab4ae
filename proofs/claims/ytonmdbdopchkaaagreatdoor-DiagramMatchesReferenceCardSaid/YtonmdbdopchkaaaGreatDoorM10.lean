/- Texts W1. -/
import Derived.Test.YtonmdbdopchkaaaGreatDoorProg
import Derived.Test.YtonmdbdopchkaaaGreatDoorM8
import Derived.WalkSpells
import Derived.WalkLawsBesides
set_option linter.all false
namespace Go.Proofs.YtonmdbdopchkaaaGreatDoor
open Go.RowKit
set_option maxHeartbeats 1000000
set_option maxRecDepth 100000
theorem zQG(s:ByteArray)(hs:s.size≤140737488355328)(w:World):
  Calls Tryz.prog 67 #[.string s] w λe w'=>e= .returned (.bool (zA7 s.data.toList))∧w=w':=by
 go_enter Tryz.func67,Tryz.ntmps67
 go_wp2;go_loop[9] (λi=>∃k:Nat,k≤s.size∧i= .int .i64 k∧Hid (zIL s.data.toList k)) (λi=>s.size-(intOf i).toNat);case atStart=>exact⟨0,Nat.zero_le _,rfl,zPD _⟩
 case round=>
  obtain⟨k,hk,rfl,hn⟩:=hrel;by_cases hlt:k<s.size
  ·have hat:=zR6 hlt;have HAT:=hid hat;clear hat
   repeat' (first|(go_big_may;fail)|((with_reducible apply zCN);rfl;first|((with_reducible apply zCM);rfl;rfl;rfl;exact zBZ.app;intro bb hbb;(simp only[nr]))|((with_reducible apply zBx);rfl;rfl;rfl;exact zBZ.app;intro bb hbb;(simp only[nr]))|((with_reducible apply zB8);rfl;rfl;rfl;simp only[])|((with_reducible apply zBj);rfl;rfl;(first|exact Or.inl rfl|exact Or.inr rfl);(simp only[nr]))|((with_reducible apply zB7);rfl;rfl;rfl;rfl;exact(by constructor);rfl;(simp only[nr]))|((with_reducible apply zB0);rfl;rfl;rfl;rfl;exact(by constructor);rfl;(simp only[nr]))|((with_reducible apply zBS);rfl;first|((with_reducible apply zAs);rfl;rfl;rfl;exact(by constructor);rfl;rfl;rfl;rfl;(simp only[nr]))|((with_reducible apply zBG);rfl;rfl;rfl;exact(by constructor);rfl;rfl;rfl;rfl;(simp only[nr])))|((with_reducible apply zAb);rfl;rfl;rfl;exact(by constructor);(intro hG;(try simp only[Bool.and_eq_true,Bool.not_eq_true']at hG);(first|subst hG|(obtain⟨h1,h2⟩:=hG;subst h1;subst h2)|(obtain⟨⟨h1,h2⟩,h3⟩:=hG;subst h1;subst h2;subst h3));(try simp only[zA2,zAM,Bool.not_true,Bool.not_false,Bool.true_and,Bool.false_and,Bool.and_self]);go_simp;with_reducible rfl);(simp only[nr]))|((with_reducible apply zB5);rfl;rfl;rfl;all_goals(intro hb;subst hb;(try simp only[zA2,zAM,Bool.not_true,Bool.not_false,Bool.true_and,Bool.false_and,Bool.and_self])))|((with_reducible apply zBR);rfl;rfl;rfl;all_goals(intro hb;(first|subst hb|((try simp only[Bool.and_eq_true,Bool.not_eq_true']at hb);obtain⟨h1,h2⟩:=hb;subst h1;subst h2));(try simp only[zA2,zAM,Bool.not_true,Bool.not_false,Bool.true_and,Bool.false_and,Bool.and_self]))))|((with_reducible apply zB6);rfl;rfl;first|((with_reducible apply zB3);rfl;rfl;rfl;rfl;(simp only[nr]))|((with_reducible apply zB4);rfl;rfl;rfl;rfl;(simp only[nr]))|((with_reducible apply zBF);rfl;rfl;rfl;rfl;rfl;(simp only[nr]))|((with_reducible apply zBQ);rfl;rfl;rfl;rfl;rfl;(simp only[nr])))|go_values|go_guarded|go_step|go_upon|go_back|dsimp only)
   ·go_ret;refine⟨zI (b:=zA7 s.data.toList) ?_,rfl⟩;rw[zNa (k:=k) (by simpa using hlt)];rw[HAT.out];simp only[Hid]at*
    subst_vars
    simp only[decide_eq_false_iff_not];simp at*;omega
   ·go_round
    case rel=>
     refine⟨k+1,by omega,by go_num,zPE hn.out ?_⟩;rw[HAT.out];simp only[Hid]at*
     subst_vars
     simp only[decide_eq_true_eq];simp at*;omega
    case measure=>simp[intOf];omega
  ·(obtain rfl:k=s.size:=by omega);have he:=zQR (l:=s.data.toList) (by simpa using hn.out);have HE:=hid he;clear he hn
   repeat' (first|(go_big_may;fail)|((with_reducible apply zCN);rfl;first|((with_reducible apply zCM);rfl;rfl;rfl;exact zBZ.app;intro bb hbb;(simp only[nr]))|((with_reducible apply zBx);rfl;rfl;rfl;exact zBZ.app;intro bb hbb;(simp only[nr]))|((with_reducible apply zB8);rfl;rfl;rfl;simp only[])|((with_reducible apply zBj);rfl;rfl;(first|exact Or.inl rfl|exact Or.inr rfl);(simp only[nr]))|((with_reducible apply zB7);rfl;rfl;rfl;rfl;exact(by constructor);rfl;(simp only[nr]))|((with_reducible apply zB0);rfl;rfl;rfl;rfl;exact(by constructor);rfl;(simp only[nr]))|((with_reducible apply zBS);rfl;first|((with_reducible apply zAs);rfl;rfl;rfl;exact(by constructor);rfl;rfl;rfl;rfl;(simp only[nr]))|((with_reducible apply zBG);rfl;rfl;rfl;exact(by constructor);rfl;rfl;rfl;rfl;(simp only[nr])))|((with_reducible apply zAb);rfl;rfl;rfl;exact(by constructor);(intro hG;(try simp only[Bool.and_eq_true,Bool.not_eq_true']at hG);(first|subst hG|(obtain⟨h1,h2⟩:=hG;subst h1;subst h2)|(obtain⟨⟨h1,h2⟩,h3⟩:=hG;subst h1;subst h2;subst h3));(try simp only[zA2,zAM,Bool.not_true,Bool.not_false,Bool.true_and,Bool.false_and,Bool.and_self]);go_simp;with_reducible rfl);(simp only[nr]))|((with_reducible apply zB5);rfl;rfl;rfl;all_goals(intro hb;subst hb;(try simp only[zA2,zAM,Bool.not_true,Bool.not_false,Bool.true_and,Bool.false_and,Bool.and_self])))|((with_reducible apply zBR);rfl;rfl;rfl;all_goals(intro hb;(first|subst hb|((try simp only[Bool.and_eq_true,Bool.not_eq_true']at hb);obtain⟨h1,h2⟩:=hb;subst h1;subst h2));(try simp only[zA2,zAM,Bool.not_true,Bool.not_false,Bool.true_and,Bool.false_and,Bool.and_self]))))|((with_reducible apply zB6);rfl;rfl;first|((with_reducible apply zB3);rfl;rfl;rfl;rfl;(simp only[nr]))|((with_reducible apply zB4);rfl;rfl;rfl;rfl;(simp only[nr]))|((with_reducible apply zBF);rfl;rfl;rfl;rfl;rfl;(simp only[nr]))|((with_reducible apply zBQ);rfl;rfl;rfl;rfl;rfl;(simp only[nr])))|go_values|go_guarded|go_step|go_upon|go_back|dsimp only)
   go_ret;refine⟨zI (b:=zA7 s.data.toList) ?_,rfl⟩;rw[HE.out];simp only[Hid]at*
   subst_vars
   (have e24:decide ((s.size:Int)≤24)=decide (s.size≤24):=by rw[Bool.eq_iff_iff];simp only[decide_eq_true_eq];omega);rw[e24,ByteArray.toList_eq,show s.data.toList.isEmpty=decide (s.data.toList=[]) from by rw[Bool.eq_iff_iff];simp];simp
end Go.Proofs.YtonmdbdopchkaaaGreatDoor
