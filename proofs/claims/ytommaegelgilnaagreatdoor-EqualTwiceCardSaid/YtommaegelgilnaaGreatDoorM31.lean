/- Lemmas. -/
import Derived.Test.YtommaegelgilnaaGreatDoorM25
set_option linter.all false
namespace Go.Proofs.YtommaegelgilnaaGreatDoor
open Go.RowKit
set_option maxHeartbeats 1000000
set_option maxRecDepth 100000
theorem zQX(c:Int):(97<=c/\c<=122)\/(¬97<=c/\65<=c/\c<=90)\/(97<=c/\¬c<=122/\65<=c/\¬c<=90/\(c !=95)=true/\¬c<48/\57<c)\/(¬97<=c/\65<=c/\¬c<=90/\(c !=95)=true/\¬c<48/\57<c)\/(¬97<=c/\65<=c/\¬c<=90/\c=95)\/
  (¬97<=c/\¬65<=c/\(c !=95)=true/\¬c<48/\57<c)\/(¬97<=c/\¬65<=c/\(c !=95)=true/\¬c<48/\¬57<c)\/(¬97<=c/\¬65<=c/\(c !=95)=true/\c<48):=by
 simp only[bne_iff_ne,ne_eq];omega
theorem zRn(s:ByteArray)(B:s.size<=140737488355328)(w:World):
  Calls Tryz.prog 51 #[.string s] w λe w'=>e= .returned (.bool (zAy s))/\w=w':=by
 rw[zIm];go_enter Tryz.func51,Tryz.ntmps51
 go_wp2;go_loop[8] (λi=>∃k:Nat,k<=s.size/\i= .int .i64 k/\Hid (zGl s.data.toList k)) (λi=>s.size-(intOf i).toNat);case atStart=>exact⟨0,Nat.zero_le _,rfl,zHY _⟩
 case round=>
  obtain⟨k,A,rfl,m⟩:=hrel;by_cases o:k<s.size
  ·have n:=zJS o;have c:=hid n;have d:=hid (λh=>zGm (l:=s.data.toList) (k:=k) (by simpa using o) h);have u:=zQX (s[k].toNat :Int);have x:=hid (λ(h:((s[k].toNat :Int)!=95)=true)=>(show ¬(s[k].toNat :Int)=95 from by simpa using h));clear n;(have a:k=0\/0<k:=by omega);rcases u with⟨f,g⟩|⟨f,g,j⟩|⟨f,g,j,h4,h5,h6,h7⟩|⟨f,g,j,h4,h5,h6⟩|⟨f,g,j,h4⟩|⟨f,g,j,h4,h5⟩|⟨f,g,j,h4,h5⟩|⟨f,g,j,h4⟩
   ·skip
    (go_wp2_with fail);go_round;(case rel=>exact⟨k+1,by omega,by go_num,zCK m (by rw[c.out];exact decide_eq_true (by grind))⟩);case measure=>simp[intOf];omega
   ·skip
    (go_wp2_with fail);go_round;(case rel=>exact⟨k+1,by omega,by go_num,zCK m (by rw[c.out];exact decide_eq_true (by grind))⟩);case measure=>simp[intOf];omega
   ·rcases a with rfl|a
    all_goals
     (go_wp2_with fail);go_ret;exact⟨zI (d (by rw[c.out];exact decide_eq_false (by grind))▸rfl),rfl⟩
   ·rcases a with rfl|a
    all_goals
     (go_wp2_with fail);go_ret;exact⟨zI (d (by rw[c.out];exact decide_eq_false (by grind))▸rfl),rfl⟩
   ·rcases a with rfl|a
    ·(go_wp2_with fail);go_ret;exact⟨zI (d (by rw[c.out];exact decide_eq_false (by grind))▸rfl),rfl⟩
    ·(go_wp2_with fail);go_round;(case rel=>exact⟨k+1,by omega,by go_num,zCK m (by rw[c.out];exact decide_eq_true (by grind))⟩);case measure=>simp[intOf];omega
   ·rcases a with rfl|a
    all_goals
     (go_wp2_with fail);go_ret;exact⟨zI (d (by rw[c.out];exact decide_eq_false (by grind))▸rfl),rfl⟩
   ·rcases a with rfl|a
    ·(go_wp2_with fail);go_ret;exact⟨zI (d (by rw[c.out];exact decide_eq_false (by grind))▸rfl),rfl⟩
    ·(go_wp2_with fail);go_round;(case rel=>exact⟨k+1,by omega,by go_num,zCK m (by rw[c.out];exact decide_eq_true (by grind))⟩);case measure=>simp[intOf];omega
   ·rcases a with rfl|a
    all_goals
     (go_wp2_with fail);go_ret;exact⟨zI (d (by rw[c.out];exact decide_eq_false (by grind))▸rfl),rfl⟩
  ·(obtain rfl:k=s.size:=by omega);have he:=zIR (l:=s.data.toList) (by simpa using m.out);have v:=hid he;clear he m
   repeat' (first|(go_big_may;fail)|((with_reducible apply zBU);rfl;first|((with_reducible apply zBT);rfl;rfl;rfl;exact zAn.app;intro z y;(simp only[nr]))|((with_reducible apply zAF);rfl;rfl;rfl;exact(by constructor);(intro q;(try simp only[Bool.and_eq_true,Bool.not_eq_true']at q);(first|subst q|(obtain⟨f,g⟩:=q;subst f;subst g)|(obtain⟨⟨f,g⟩,j⟩:=q;subst f;subst g;subst j));(try simp only[zm,z7,Bool.not_true,Bool.not_false,Bool.true_and,Bool.false_and,Bool.and_self]);go_simp;with_reducible rfl);(simp only[nr])))|((with_reducible apply zAj);rfl;rfl;first|((with_reducible apply zAg);rfl;rfl;rfl;rfl;(simp only[nr]))|((with_reducible apply zAh);rfl;rfl;rfl;rfl;(simp only[nr]))|((with_reducible apply zAR);rfl;rfl;rfl;rfl;rfl;(simp only[nr]))|((with_reducible apply zA7);rfl;rfl;rfl;rfl;rfl;(simp only[nr])))|go_values|go_guarded|go_step|go_upon|go_back|dsimp only)
   go_ret;refine⟨zI (b:=zB6 s.data.toList) ?_,rfl⟩;rw[v.out];simp only[Hid]at*
   subst_vars
   (have t:decide ((s.size:Int)<=24)=decide (s.size<=24):=by rw[Bool.eq_iff_iff];simp only[decide_eq_true_eq];omega);rw[t,ByteArray.toList_eq,show s.data.toList.isEmpty=decide (s.data.toList=[]) from by rw[Bool.eq_iff_iff];simp];simp
theorem zOs{q c:Int}(h:(97<=q/\q<=122)↔((97<=c/\c<=122)\/(65<=c/\c<=90))):(97<=q/\q<=122/\48<=c/\¬c<=57/\(c==95)=false)\/(¬97<=q/\¬48<=c/\(c==95)=false)\/(¬97<=q/\48<=c/\c<=57)\/(¬97<=q/\48<=c/\¬c<=57/\(c==95)=true)\/(¬97<=q/\48<=c/\¬c<=57/\(c==95)=false)\/
  (97<=q/\¬q<=122/\¬48<=c/\(c==95)=false)\/(97<=q/\¬q<=122/\48<=c/\c<=57)\/(97<=q/\¬q<=122/\48<=c/\¬c<=57/\(c==95)=true)\/(97<=q/\¬q<=122/\48<=c/\¬c<=57/\(c==95)=false):=by
 simp only[beq_eq_false_iff_ne,ne_eq,beq_iff_eq];omega
theorem zU3:∀n:Fin 256,(97<=bits BinOp.or IntKind.u8 (n.1:Int) 32/\bits BinOp.or IntKind.u8 (n.1:Int) 32<=122)↔((97<=(n.1:Int)/\(n.1:Int)<=122)\/(65<=(n.1:Int)/\(n.1:Int)<=90)):=by decide+kernel
theorem zIC(s:ByteArray)(F:s.size<=140737488355328)(w:World):
  Calls Tryz.prog 234 #[.string s] w λe w'=>e= .returned (.bool (zAy s))/\Bw w w':=by
 rw[zIm];go_enter Tryz.func234,Tryz.ntmps234
 go_wp2;go_loopw[9] (λi wr=>∃k:Nat,k<=s.size/\i= .int .i64 k/\Bw w wr/\Hid (zGl s.data.toList k)) (λi _=>s.size-(intOf i).toNat);case atStart=>exact⟨0,Nat.zero_le _,rfl,Below.refl _ _,zHY _⟩
 case round=>
  obtain⟨k,E,rfl,a,o⟩:=hrel;by_cases u:k<s.size
  ·have t:=zJS u;have q:=zU3 ⟨s[k].toNat,s[k].toNat_lt⟩;dsimp only at q
   have n:zFQ s.data.toList k=decide ((97<=bits BinOp.or IntKind.u8 (s[k].toNat :Int) 32/\bits BinOp.or IntKind.u8 (s[k].toNat :Int) 32<=122)\/(0<k/\((48<=(s[k].toNat :Int)/\(s[k].toNat :Int)<=57)\/(s[k].toNat :Int)=95))):=by
    rw[t];apply decide_eq_decide.2;grind
   have d:=hid n;have f:=hid (λh=>zGm (l:=s.data.toList) (k:=k) (by simpa using u) h);have y:=zOs q;have B:=hid (λ(h:((s[k].toNat :Int)==95)=false)=>(show ¬(s[k].toNat :Int)=95 from by simpa using h));have A:=hid (λ(h:((s[k].toNat :Int)==95)=true)=>(show(s[k].toNat :Int)=95 from by simpa using h));(have c:k=0\/0<k:=by omega);clear t n q;(go_upto_region 5 with fail);rcases y with⟨g,j,m,h4,h5⟩|⟨g,j,m⟩|⟨g,j,m⟩|⟨g,j,m,h4⟩|⟨g,j,m,h4⟩|⟨h0,g,j,m⟩|⟨h0,g,j,m⟩|⟨h0,g,j,m,h4⟩|⟨h0,g,j,m,h4⟩
   ·skip
    go_quiet(fail);(go_wp2_with fail);go_roundw;(case rel=>exact⟨k+1,by omega,by go_num,below_drewN' a _,zCK o (by rw[d.out];exact decide_eq_true (by grind))⟩);case measure=>simp[intOf];omega
   ·rcases c with rfl|c
    all_goals
     go_quiet(fail);(go_wp2_with fail);go_ret;exact⟨zI (f (by rw[d.out];exact decide_eq_false (by grind))▸rfl),below_drewN' a _⟩
   ·rcases c with rfl|c
    ·go_quiet(fail);(go_wp2_with fail);go_ret;exact⟨zI (f (by rw[d.out];exact decide_eq_false (by grind))▸rfl),below_drewN' a _⟩
    ·skip
     go_quiet(fail);(go_wp2_with fail);go_roundw;(case rel=>exact⟨k+1,by omega,by go_num,below_drewN' a _,zCK o (by rw[d.out];exact decide_eq_true (by grind))⟩);case measure=>simp[intOf];omega
   ·rcases c with rfl|c
    ·go_quiet(fail);(go_wp2_with fail);go_ret;exact⟨zI (f (by rw[d.out];exact decide_eq_false (by grind))▸rfl),below_drewN' a _⟩
    ·skip
     go_quiet(fail);(go_wp2_with fail);go_roundw;(case rel=>exact⟨k+1,by omega,by go_num,below_drewN' a _,zCK o (by rw[d.out];exact decide_eq_true (by grind))⟩);case measure=>simp[intOf];omega
   ·rcases c with rfl|c
    all_goals
     go_quiet(fail);(go_wp2_with fail);go_ret;exact⟨zI (f (by rw[d.out];exact decide_eq_false (by grind))▸rfl),below_drewN' a _⟩
   ·rcases c with rfl|c
    all_goals
     go_quiet(fail);(go_wp2_with fail);go_ret;exact⟨zI (f (by rw[d.out];exact decide_eq_false (by grind))▸rfl),below_drewN' a _⟩
   ·rcases c with rfl|c
    ·go_quiet(fail);(go_wp2_with fail);go_ret;exact⟨zI (f (by rw[d.out];exact decide_eq_false (by grind))▸rfl),below_drewN' a _⟩
    ·skip
     go_quiet(fail);(go_wp2_with fail);go_roundw;(case rel=>exact⟨k+1,by omega,by go_num,below_drewN' a _,zCK o (by rw[d.out];exact decide_eq_true (by grind))⟩);case measure=>simp[intOf];omega
   ·rcases c with rfl|c
    ·go_quiet(fail);(go_wp2_with fail);go_ret;exact⟨zI (f (by rw[d.out];exact decide_eq_false (by grind))▸rfl),below_drewN' a _⟩
    ·skip
     go_quiet(fail);(go_wp2_with fail);go_roundw;(case rel=>exact⟨k+1,by omega,by go_num,below_drewN' a _,zCK o (by rw[d.out];exact decide_eq_true (by grind))⟩);case measure=>simp[intOf];omega
   ·rcases c with rfl|c
    all_goals
     go_quiet(fail);(go_wp2_with fail);go_ret;exact⟨zI (f (by rw[d.out];exact decide_eq_false (by grind))▸rfl),below_drewN' a _⟩
  ·(obtain rfl:k=s.size:=by omega);have he:=zIR (l:=s.data.toList) (by simpa using o.out);have z:=hid he;clear he o
   repeat' (first|(go_big_may;fail)|((with_reducible apply zBU);rfl;first|((with_reducible apply zBT);rfl;rfl;rfl;exact zAn.app;intro D C;(simp only[nr]))|((with_reducible apply zAF);rfl;rfl;rfl;exact(by constructor);(intro v;(try simp only[Bool.and_eq_true,Bool.not_eq_true']at v);(first|subst v|(obtain⟨g,j⟩:=v;subst g;subst j)|(obtain⟨⟨g,j⟩,m⟩:=v;subst g;subst j;subst m));(try simp only[zm,z7,Bool.not_true,Bool.not_false,Bool.true_and,Bool.false_and,Bool.and_self]);go_simp;with_reducible rfl);(simp only[nr])))|((with_reducible apply zAj);rfl;rfl;first|((with_reducible apply zAg);rfl;rfl;rfl;rfl;(simp only[nr]))|((with_reducible apply zAh);rfl;rfl;rfl;rfl;(simp only[nr]))|((with_reducible apply zAR);rfl;rfl;rfl;rfl;rfl;(simp only[nr]))|((with_reducible apply zA7);rfl;rfl;rfl;rfl;rfl;(simp only[nr])))|go_values|go_guarded|go_step|go_upon|go_back|dsimp only)
   go_ret;refine⟨zI (b:=zB6 s.data.toList) ?_,a⟩;rw[z.out];simp only[Hid]at*
   subst_vars
   (have x:decide ((s.size:Int)<=24)=decide (s.size<=24):=by rw[Bool.eq_iff_iff];simp only[decide_eq_true_eq];omega);rw[x,ByteArray.toList_eq,show s.data.toList.isEmpty=decide (s.data.toList=[]) from by rw[Bool.eq_iff_iff];simp];simp
end Go.Proofs.YtommaegelgilnaaGreatDoor
