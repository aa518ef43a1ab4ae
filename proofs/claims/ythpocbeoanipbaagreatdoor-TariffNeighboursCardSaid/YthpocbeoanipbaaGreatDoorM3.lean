/- Texts W1. -/
import Derived.Test.YthpocbeoanipbaaGreatDoorProg
import Derived.Test.YthpocbeoanipbaaGreatDoorM2
import Derived.WalkSpells
import Derived.WalkLawsBesides
set_option linter.all false
namespace Go.Proofs.YthpocbeoanipbaaGreatDoor
open Go.RowKit
set_option maxHeartbeats 1000000
set_option maxRecDepth 100000
theorem zRv(s:ByteArray)(x:s.size<=140737488355328)(w:World):
  Calls Tryz.prog 63 #[.string s] w λe w'=>e= .returned (.bool (zBZ s.data.toList))/\w=w':=by
 go_enter Tryz.func63,Tryz.ntmps63
 go_wp2;go_loop[9] (λi=>∃k:Nat,k<=s.size/\i= .int .i64 k/\Hid (zJe s.data.toList k)) (λi=>s.size-(intOf i).toNat);case atStart=>exact⟨0,Nat.zero_le _,rfl,zPq _⟩
 case round=>
  obtain⟨k,v,rfl,t⟩:=hrel;by_cases m:k<s.size
  ·have j:=zSw m;have h:=hid j;clear j
   repeat' (first|(go_big_may;fail)|((with_reducible apply zDF);rfl;first|((with_reducible apply zDE);rfl;rfl;rfl;exact zBz.app;intro n g;(simp only[nr]))|((with_reducible apply zCp);rfl;rfl;rfl;exact zBz.app;intro n g;(simp only[nr]))|((with_reducible apply zCO);rfl;rfl;rfl;simp only[])|((with_reducible apply zC2);rfl;rfl;(first|exact Or.inl rfl|exact Or.inr rfl);(simp only[nr]))|((with_reducible apply zCN);rfl;rfl;rfl;rfl;exact(by constructor);rfl;(simp only[nr]))|((with_reducible apply zCA);rfl;rfl;rfl;rfl;exact(by constructor);rfl;(simp only[nr]))|((with_reducible apply zBo);rfl;first|((with_reducible apply zBR);rfl;rfl;rfl;exact(by constructor);rfl;rfl;rfl;rfl;(simp only[nr]))|((with_reducible apply zB6);rfl;rfl;rfl;exact(by constructor);rfl;rfl;rfl;rfl;(simp only[nr])))|((with_reducible apply zAv);rfl;rfl;rfl;exact(by constructor);(intro f;(try simp only[Bool.and_eq_true,Bool.not_eq_true']at f);(first|subst f|(obtain⟨a,c⟩:=f;subst a;subst c)|(obtain⟨⟨a,c⟩,q⟩:=f;subst a;subst c;subst q));(try simp only[zAq,zA7,Bool.not_true,Bool.not_false,Bool.true_and,Bool.false_and,Bool.and_self]);go_simp;with_reducible rfl);(simp only[nr]))|((with_reducible apply zCL);rfl;rfl;rfl;all_goals(intro d;subst d;(try simp only[zAq,zA7,Bool.not_true,Bool.not_false,Bool.true_and,Bool.false_and,Bool.and_self])))|((with_reducible apply zBn);rfl;rfl;rfl;all_goals(intro d;(first|subst d|((try simp only[Bool.and_eq_true,Bool.not_eq_true']at d);obtain⟨a,c⟩:=d;subst a;subst c));(try simp only[zAq,zA7,Bool.not_true,Bool.not_false,Bool.true_and,Bool.false_and,Bool.and_self]))))|((with_reducible apply zCM);rfl;rfl;first|((with_reducible apply zCJ);rfl;rfl;rfl;rfl;(simp only[nr]))|((with_reducible apply zCK);rfl;rfl;rfl;rfl;(simp only[nr]))|((with_reducible apply zB5);rfl;rfl;rfl;rfl;rfl;(simp only[nr]))|((with_reducible apply zBm);rfl;rfl;rfl;rfl;rfl;(simp only[nr])))|go_values|go_guarded|go_step|go_upon|go_back|dsimp only)
   ·go_ret;refine⟨zAb (b:=zBZ s.data.toList) ?_,rfl⟩;rw[zOq (k:=k) (by simpa using m)];rw[h.out];simp only[Hid]at*
    subst_vars
    simp only[decide_eq_false_iff_not];simp at*;omega
   ·go_round
    case rel=>
     refine⟨k+1,by omega,by go_num,zPr t.out ?_⟩;rw[h.out];simp only[Hid]at*
     subst_vars
     simp only[decide_eq_true_eq];simp at*;omega
    case measure=>simp[intOf];omega
  ·(obtain rfl:k=s.size:=by omega);have he:=zRY (l:=s.data.toList) (by simpa using t.out);have u:=hid he;clear he t
   repeat' (first|(go_big_may;fail)|((with_reducible apply zDF);rfl;first|((with_reducible apply zDE);rfl;rfl;rfl;exact zBz.app;intro n g;(simp only[nr]))|((with_reducible apply zCp);rfl;rfl;rfl;exact zBz.app;intro n g;(simp only[nr]))|((with_reducible apply zCO);rfl;rfl;rfl;simp only[])|((with_reducible apply zC2);rfl;rfl;(first|exact Or.inl rfl|exact Or.inr rfl);(simp only[nr]))|((with_reducible apply zCN);rfl;rfl;rfl;rfl;exact(by constructor);rfl;(simp only[nr]))|((with_reducible apply zCA);rfl;rfl;rfl;rfl;exact(by constructor);rfl;(simp only[nr]))|((with_reducible apply zBo);rfl;first|((with_reducible apply zBR);rfl;rfl;rfl;exact(by constructor);rfl;rfl;rfl;rfl;(simp only[nr]))|((with_reducible apply zB6);rfl;rfl;rfl;exact(by constructor);rfl;rfl;rfl;rfl;(simp only[nr])))|((with_reducible apply zAv);rfl;rfl;rfl;exact(by constructor);(intro f;(try simp only[Bool.and_eq_true,Bool.not_eq_true']at f);(first|subst f|(obtain⟨a,c⟩:=f;subst a;subst c)|(obtain⟨⟨a,c⟩,q⟩:=f;subst a;subst c;subst q));(try simp only[zAq,zA7,Bool.not_true,Bool.not_false,Bool.true_and,Bool.false_and,Bool.and_self]);go_simp;with_reducible rfl);(simp only[nr]))|((with_reducible apply zCL);rfl;rfl;rfl;all_goals(intro d;subst d;(try simp only[zAq,zA7,Bool.not_true,Bool.not_false,Bool.true_and,Bool.false_and,Bool.and_self])))|((with_reducible apply zBn);rfl;rfl;rfl;all_goals(intro d;(first|subst d|((try simp only[Bool.and_eq_true,Bool.not_eq_true']at d);obtain⟨a,c⟩:=d;subst a;subst c));(try simp only[zAq,zA7,Bool.not_true,Bool.not_false,Bool.true_and,Bool.false_and,Bool.and_self]))))|((with_reducible apply zCM);rfl;rfl;first|((with_reducible apply zCJ);rfl;rfl;rfl;rfl;(simp only[nr]))|((with_reducible apply zCK);rfl;rfl;rfl;rfl;(simp only[nr]))|((with_reducible apply zB5);rfl;rfl;rfl;rfl;rfl;(simp only[nr]))|((with_reducible apply zBm);rfl;rfl;rfl;rfl;rfl;(simp only[nr])))|go_values|go_guarded|go_step|go_upon|go_back|dsimp only)
   go_ret;refine⟨zAb (b:=zBZ s.data.toList) ?_,rfl⟩;rw[u.out];simp only[Hid]at*
   subst_vars
   (have o:decide ((s.size:Int)<=24)=decide (s.size<=24):=by rw[Bool.eq_iff_iff];simp only[decide_eq_true_eq];omega);rw[o,ByteArray.toList_eq,show s.data.toList.isEmpty=decide (s.data.toList=[]) from by rw[Bool.eq_iff_iff];simp];simp
end Go.Proofs.YthpocbeoanipbaaGreatDoor
