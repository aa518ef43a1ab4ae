/- Texts W1. -/
import Derived.Test.YtimmfbnjndndlaaGreatDoorProg
import Derived.Test.YtimmfbnjndndlaaGreatDoorM7
import Derived.Test.YtimmfbnjndndlaaGreatDoorM9
import Derived.WalkSpells
import Derived.WalkLawsBesides
set_option linter.all false
namespace Go.Proofs.YtimmfbnjndndlaaGreatDoor
open Go.RowKit
set_option maxHeartbeats 1000000
set_option maxRecDepth 100000
theorem isName_any(s:ByteArray)(hs:s.size≤140737488355328)(w:World):
  Calls Tryz.prog 87 #[.string s] w λe w'=>e= .returned (.bool (isName s.data.toList))∧w=w':=by
 go_enter Tryz.func87,Tryz.ntmps87
 go_wp2;go_loop[9] (λi=>∃k:Nat,k≤s.size∧i= .int .i64 k∧Hid (nameTo s.data.toList k)) (λi=>s.size-(intOf i).toNat);case atStart=>exact⟨0,Nat.zero_le _,rfl,nameTo_zero _⟩
 case round=>
  obtain⟨k,hk,rfl,hn⟩:=hrel;by_cases hlt:k<s.size
  ·have hat:=nameAt_eq hlt;have HAT:=hid hat;clear hat
   repeat' (first|(go_big_may;fail)|((with_reducible apply wpList_isG);rfl;first|((with_reducible apply wpList_gen);rfl;rfl;rfl;exact NotVar.app;intro bb hbb;(simp only[nr]))|((with_reducible apply wpList_gen2);rfl;rfl;rfl;exact NotVar.app;intro bb hbb;(simp only[nr]))|((with_reducible apply wpList_gconst);rfl;rfl;rfl;simp only[])|((with_reducible apply wpList_gskip);rfl;rfl;(first|exact Or.inl rfl|exact Or.inr rfl);(simp only[nr]))|((with_reducible apply wpList_ggmove);rfl;rfl;rfl;rfl;exact(by constructor);rfl;(simp only[nr]))|((with_reducible apply wpList_gmove);rfl;rfl;rfl;rfl;exact(by constructor);rfl;(simp only[nr]))|((with_reducible apply wpList_isGPick);rfl;first|((with_reducible apply wpList_gpick_and);rfl;rfl;rfl;exact(by constructor);rfl;rfl;rfl;rfl;(simp only[nr]))|((with_reducible apply wpList_gpick_or);rfl;rfl;rfl;exact(by constructor);rfl;rfl;rfl;rfl;(simp only[nr])))|((with_reducible apply wpList_guarded);rfl;rfl;rfl;exact(by constructor);(intro hG;(try simp only[Bool.and_eq_true,Bool.not_eq_true']at hG);(first|subst hG|(obtain⟨h1,h2⟩:=hG;subst h1;subst h2)|(obtain⟨⟨h1,h2⟩,h3⟩:=hG;subst h1;subst h2;subst h3));(try simp only[gv_true,gv_false,Bool.not_true,Bool.not_false,Bool.true_and,Bool.false_and,Bool.and_self]);go_simp;with_reducible rfl);(simp only[nr]))|((with_reducible apply wpList_gsplit);rfl;rfl;rfl;all_goals(intro hb;subst hb;(try simp only[gv_true,gv_false,Bool.not_true,Bool.not_false,Bool.true_and,Bool.false_and,Bool.and_self])))|((with_reducible apply wpList_gsplit2);rfl;rfl;rfl;all_goals(intro hb;(first|subst hb|((try simp only[Bool.and_eq_true,Bool.not_eq_true']at hb);obtain⟨h1,h2⟩:=hb;subst h1;subst h2));(try simp only[gv_true,gv_false,Bool.not_true,Bool.not_false,Bool.true_and,Bool.false_and,Bool.and_self]))))|((with_reducible apply wpList_isPick);rfl;rfl;first|((with_reducible apply wpList_pick_t);rfl;rfl;rfl;rfl;(simp only[nr]))|((with_reducible apply wpList_pick_f);rfl;rfl;rfl;rfl;(simp only[nr]))|((with_reducible apply wpList_pick_and);rfl;rfl;rfl;rfl;rfl;(simp only[nr]))|((with_reducible apply wpList_pick_or);rfl;rfl;rfl;rfl;rfl;(simp only[nr])))|go_values|go_guarded|go_step|go_upon|go_back|dsimp only)
   ·go_ret;refine⟨ret_bool (b:=isName s.data.toList) ?_,rfl⟩;rw[isName_false (k:=k) (by simpa using hlt)];rw[HAT.out];simp only[Hid]at*
    subst_vars
    simp only[decide_eq_false_iff_not];simp at*;omega
   ·go_round
    case rel=>
     refine⟨k+1,by omega,by go_num,nameTo_succ hn.out ?_⟩;rw[HAT.out];simp only[Hid]at*
     subst_vars
     simp only[decide_eq_true_eq];simp at*;omega
    case measure=>simp[intOf];omega
  ·(obtain rfl:k=s.size:=by omega);have he:=isName_all (l:=s.data.toList) (by simpa using hn.out);have HE:=hid he;clear he hn
   repeat' (first|(go_big_may;fail)|((with_reducible apply wpList_isG);rfl;first|((with_reducible apply wpList_gen);rfl;rfl;rfl;exact NotVar.app;intro bb hbb;(simp only[nr]))|((with_reducible apply wpList_gen2);rfl;rfl;rfl;exact NotVar.app;intro bb hbb;(simp only[nr]))|((with_reducible apply wpList_gconst);rfl;rfl;rfl;simp only[])|((with_reducible apply wpList_gskip);rfl;rfl;(first|exact Or.inl rfl|exact Or.inr rfl);(simp only[nr]))|((with_reducible apply wpList_ggmove);rfl;rfl;rfl;rfl;exact(by constructor);rfl;(simp only[nr]))|((with_reducible apply wpList_gmove);rfl;rfl;rfl;rfl;exact(by constructor);rfl;(simp only[nr]))|((with_reducible apply wpList_isGPick);rfl;first|((with_reducible apply wpList_gpick_and);rfl;rfl;rfl;exact(by constructor);rfl;rfl;rfl;rfl;(simp only[nr]))|((with_reducible apply wpList_gpick_or);rfl;rfl;rfl;exact(by constructor);rfl;rfl;rfl;rfl;(simp only[nr])))|((with_reducible apply wpList_guarded);rfl;rfl;rfl;exact(by constructor);(intro hG;(try simp only[Bool.and_eq_true,Bool.not_eq_true']at hG);(first|subst hG|(obtain⟨h1,h2⟩:=hG;subst h1;subst h2)|(obtain⟨⟨h1,h2⟩,h3⟩:=hG;subst h1;subst h2;subst h3));(try simp only[gv_true,gv_false,Bool.not_true,Bool.not_false,Bool.true_and,Bool.false_and,Bool.and_self]);go_simp;with_reducible rfl);(simp only[nr]))|((with_reducible apply wpList_gsplit);rfl;rfl;rfl;all_goals(intro hb;subst hb;(try simp only[gv_true,gv_false,Bool.not_true,Bool.not_false,Bool.true_and,Bool.false_and,Bool.and_self])))|((with_reducible apply wpList_gsplit2);rfl;rfl;rfl;all_goals(intro hb;(first|subst hb|((try simp only[Bool.and_eq_true,Bool.not_eq_true']at hb);obtain⟨h1,h2⟩:=hb;subst h1;subst h2));(try simp only[gv_true,gv_false,Bool.not_true,Bool.not_false,Bool.true_and,Bool.false_and,Bool.and_self]))))|((with_reducible apply wpList_isPick);rfl;rfl;first|((with_reducible apply wpList_pick_t);rfl;rfl;rfl;rfl;(simp only[nr]))|((with_reducible apply wpList_pick_f);rfl;rfl;rfl;rfl;(simp only[nr]))|((with_reducible apply wpList_pick_and);rfl;rfl;rfl;rfl;rfl;(simp only[nr]))|((with_reducible apply wpList_pick_or);rfl;rfl;rfl;rfl;rfl;(simp only[nr])))|go_values|go_guarded|go_step|go_upon|go_back|dsimp only)
   go_ret;refine⟨ret_bool (b:=isName s.data.toList) ?_,rfl⟩;rw[HE.out];simp only[Hid]at*
   subst_vars
   (have e24:decide ((s.size:Int)≤24)=decide (s.size≤24):=by rw[Bool.eq_iff_iff];simp only[decide_eq_true_eq];omega);rw[e24,ByteArray.toList_eq,show s.data.toList.isEmpty=decide (s.data.toList=[]) from by rw[Bool.eq_iff_iff];simp];simp
end Go.Proofs.YtimmfbnjndndlaaGreatDoor
