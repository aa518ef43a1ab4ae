/- Lemmas. -/
import Derived.Test.YtommaegelgilnaaGreatDoorProg
import Derived.WalkSpells
import Derived.WalkLawsBesides
import Derived.Test.YtommaegelgilnaaGreatDoorM5
import Derived.Shelf.Abstract
import Derived.Laws.EntriesVeiled
set_option linter.all false
namespace Go.Proofs.YtommaegelgilnaaGreatDoor
open Go.RowKit Go.Proofs.Tryz
set_option maxHeartbeats 8000000
set_option maxRecDepth 100000
variable {l:List ByteArray}{α:Type}
theorem zJ5(g:FuncId)(lb:Array Value)(J:∀args w,(callFunc g args).run prog w= .ok (.enter g args) w)(R:List Value->α->Prop)(Z:zD)(xs:List α)(p:Nat->Bool)(A:Option Addr)(cap:Nat)(w:World)
  (G:∀cs x,R cs x->∃v0 v1 v2 v3,cs=[v0,v1,v2,v3])(B:zAW R 4 Z w xs A)(L:xs.length<=140737488355328)(z:zLD prog g lb R w xs p):
  Calls prog 205 #[.slice A xs.length cap,.func (.func g) #[] lb] w λe w'=>e= .returned (.int .i64 (firstIdx p xs.length 0))/\Bw w w':=by
 have D:=hid z;clear z;go_enter func205,ntmps205
 go_wp2;go_loopw[8] (λi wr=>∃k:Nat,k<=xs.length/\i= .int .i64 k/\Bw w wr/\Hid (∀j,0<=j->j<k->p j=false)) (λi _=>xs.length-(intOf i).toNat);case atStart=>exact⟨0,Nat.zero_le _,rfl,Below.refl _ _,λj _ h=>absurd h (Nat.not_lt_zero j)⟩
 case round=>
  obtain⟨k,K,rfl,a,f⟩:=hrel;by_cases q:k<xs.length
  ·obtain⟨b,H,cs,rfl,M,v,y⟩:=B.at_ q;have E:=hid y;obtain⟨v0,v1,v2,v3,rfl⟩:=G _ _ y;have u:b<w.heap.size:=lt_of_cell (zEQ v).1;obtain⟨I,c1,c2,c3⟩:=zEQ (zDj a u v);clear v B y;have C:=hid (D k q _ E _ a);have c:=hid a;clear a;cases m:p k
   all_goals
    have n:=hid m;have d:=C.out;rw[m]at d;clear m;have s:=hid d;clear d;(go_wp2_with fail);refine s.mono ?_;rintro e N ⟨rfl,o⟩;go_wp2
   ·go_roundw
    case rel=>exact⟨k+1,by omega,by go_num,(zC c o),λj t F=>by
     by_cases e:j=k
     ·subst e;exact n.out
     exact f j t (by omega)⟩
    case measure=>simp[intOf];omega
   go_ret;exact⟨zAz (zCr f (Nat.zero_le _) (by omega) n).symm,zC c o⟩
  obtain rfl:k=xs.length:=by omega
  go_wp2;go_ret;exact⟨zAz (zDd (λj t F=>f j t (by omega))).symm,a⟩
theorem zJ6(g:FuncId)(lb:Array Value)(J:∀args w,(callFunc g args).run prog w= .ok (.enter g args) w)(R:List Value->α->Prop)(Z:zD)(xs:List α)(p:Nat->Bool)(A:Option Addr)(cap:Nat)(w:World)
  (G:∀cs x,R cs x->∃v0 v1 v2 v3,cs=[v0,v1,v2,v3])(B:zAW R 4 Z w xs A)(L:xs.length<=140737488355328)(z:zLD prog g lb R w xs p):
  Calls prog 179 #[.slice A xs.length cap,.func (.func g) #[] lb] w λe w'=>e= .returned (.int .i64 (firstIdx p xs.length 0))/\Bw w w':=by
 have D:=hid z;clear z;go_enter func179,ntmps179
 go_wp2;go_loopw[8] (λi wr=>∃k:Nat,k<=xs.length/\i= .int .i64 k/\Bw w wr/\Hid (∀j,0<=j->j<k->p j=false)) (λi _=>xs.length-(intOf i).toNat);case atStart=>exact⟨0,Nat.zero_le _,rfl,Below.refl _ _,λj _ h=>absurd h (Nat.not_lt_zero j)⟩
 case round=>
  obtain⟨k,K,rfl,a,f⟩:=hrel;by_cases q:k<xs.length
  ·obtain⟨b,H,cs,rfl,M,v,y⟩:=B.at_ q;have E:=hid y;obtain⟨v0,v1,v2,v3,rfl⟩:=G _ _ y;have u:b<w.heap.size:=lt_of_cell (zEQ v).1;obtain⟨I,c1,c2,c3⟩:=zEQ (zDj a u v);clear v B y;have C:=hid (D k q _ E _ a);have c:=hid a;clear a;cases m:p k
   all_goals
    have n:=hid m;have d:=C.out;rw[m]at d;clear m;have s:=hid d;clear d;(go_wp2_with fail);refine s.mono ?_;rintro e N ⟨rfl,o⟩;go_wp2
   ·go_roundw
    case rel=>exact⟨k+1,by omega,by go_num,(zC c o),λj t F=>by
     by_cases e:j=k
     ·subst e;exact n.out
     exact f j t (by omega)⟩
    case measure=>simp[intOf];omega
   go_ret;exact⟨zAz (zCr f (Nat.zero_le _) (by omega) n).symm,zC c o⟩
  obtain rfl:k=xs.length:=by omega
  go_wp2;go_ret;exact⟨zAz (zDd (λj t F=>f j t (by omega))).symm,a⟩
theorem zIN(g:FuncId)(lb:Array Value)(J:∀args w,(callFunc g args).run prog w= .ok (.enter g args) w)(R:List Value->α->Prop)(Z:zD)(xs:List α)(p:Nat->Bool)(A:Option Addr)(cap:Nat)(w:World)
  (G:∀cs x,R cs x->∃v0 v1 v2 v3 v4,cs=[v0,v1,v2,v3,v4])(B:zAW R 5 Z w xs A)(L:xs.length<=140737488355328)(z:zLD prog g lb R w xs p):
  Calls prog 207 #[.slice A xs.length cap,.func (.func g) #[] lb] w λe w'=>e= .returned (.int .i64 (firstIdx p xs.length 0))/\Bw w w':=by
 have D:=hid z;clear z;go_enter func207,ntmps207
 go_wp2;go_loopw[8] (λi wr=>∃k:Nat,k<=xs.length/\i= .int .i64 k/\Bw w wr/\Hid (∀j,0<=j->j<k->p j=false)) (λi _=>xs.length-(intOf i).toNat);case atStart=>exact⟨0,Nat.zero_le _,rfl,Below.refl _ _,λj _ h=>absurd h (Nat.not_lt_zero j)⟩
 case round=>
  obtain⟨k,K,rfl,a,f⟩:=hrel;by_cases q:k<xs.length
  ·obtain⟨b,H,cs,rfl,M,v,y⟩:=B.at_ q;have E:=hid y;obtain⟨v0,v1,v2,v3,v4,rfl⟩:=G _ _ y;have u:b<w.heap.size:=lt_of_cell (zAL v).1;obtain⟨I,c1,c2,c3,c4⟩:=zAL (zDj a u v);clear v B y;have C:=hid (D k q _ E _ a);have c:=hid a;clear a;cases m:p k
   all_goals
    have n:=hid m;have d:=C.out;rw[m]at d;clear m;have s:=hid d;clear d;(go_wp2_with fail);refine s.mono ?_;rintro e N ⟨rfl,o⟩;go_wp2
   ·go_roundw
    case rel=>exact⟨k+1,by omega,by go_num,(zC c o),λj t F=>by
     by_cases e:j=k
     ·subst e;exact n.out
     exact f j t (by omega)⟩
    case measure=>simp[intOf];omega
   go_ret;exact⟨zAz (zCr f (Nat.zero_le _) (by omega) n).symm,zC c o⟩
  obtain rfl:k=xs.length:=by omega
  go_wp2;go_ret;exact⟨zAz (zDd (λj t F=>f j t (by omega))).symm,a⟩
theorem zIO(g:FuncId)(lb:Array Value)(f:∀args w,(callFunc g args).run prog w= .ok (.enter g args) w)(R:List Value->α->Prop)(Z:zD)(xs:List α)(p:Nat->Bool)(A:Option Addr)(cap:Nat)(w:World)
  (h:∀cs x,R cs x->∃v0 v1 v2 v3,cs=[v0,v1,v2,v3])(c:zAW R 4 Z w xs A)(i:xs.length<=140737488355328)(b:zLD prog g lb R w xs p):
  Calls prog 128 #[.slice A xs.length cap,.func (.func g) #[] lb] w λe w'=>e= .returned (.bool (decide (0<=firstIdx p xs.length 0)))/\Bw w w':=by
 have d:=hid (zJ6 g lb f R Z xs p A cap w h c i b);clear b c;go_enter func128,ntmps128
 go_wp2_with fail
 refine d.mono ?_;rintro e j ⟨rfl,a⟩;go_wp2;go_ret;exact⟨rfl,a⟩
theorem zEW(g:FuncId)(lb:Array Value)(f:∀args w,(callFunc g args).run prog w= .ok (.enter g args) w)(R:List Value->α->Prop)(Z:zD)(xs:List α)(p:Nat->Bool)(A:Option Addr)(cap:Nat)(w:World)
  (h:∀cs x,R cs x->∃v0 v1 v2 v3 v4,cs=[v0,v1,v2,v3,v4])(c:zAW R 5 Z w xs A)(i:xs.length<=140737488355328)(b:zLD prog g lb R w xs p):
  Calls prog 151 #[.slice A xs.length cap,.func (.func g) #[] lb] w λe w'=>e= .returned (.bool (decide (0<=firstIdx p xs.length 0)))/\Bw w w':=by
 have d:=hid (zIN g lb f R Z xs p A cap w h c i b);clear b c;go_enter func151,ntmps151
 go_wp2_with fail
 refine d.mono ?_;rintro e j ⟨rfl,a⟩;go_wp2;go_ret;exact⟨rfl,a⟩
theorem zRA(s:ByteArray)(v:s.size<=140737488355328)(w:World):
  Calls prog 97 #[.string s] w λe w'=>e= .returned (.bool (zB6 s.data.toList))/\w=w':=by
 go_enter func97,ntmps97
 go_wp2;go_loop[9] (λi=>∃k:Nat,k<=s.size/\i= .int .i64 k/\Hid (zGl s.data.toList k)) (λi=>s.size-(intOf i).toNat);case atStart=>exact⟨0,Nat.zero_le _,rfl,zHY _⟩
 case round=>
  obtain⟨k,u,rfl,q⟩:=hrel;by_cases j:k<s.size
  ·have h:=zJS j;have g:=hid h;clear h
   repeat' (first|(go_big_may;fail)|((with_reducible apply zBU);rfl;first|((with_reducible apply zBT);rfl;rfl;rfl;exact zAn.app;intro m f;(simp only[nr]))|((with_reducible apply zBM);rfl;rfl;rfl;exact zAn.app;intro m f;(simp only[nr]))|((with_reducible apply zAk);rfl;rfl;rfl;rfl;exact(by constructor);rfl;(simp only[nr]))|((with_reducible apply zA9);rfl;first|((with_reducible apply zAJ);rfl;rfl;rfl;exact(by constructor);rfl;rfl;rfl;rfl;(simp only[nr]))|((with_reducible apply zAS);rfl;rfl;rfl;exact(by constructor);rfl;rfl;rfl;rfl;(simp only[nr])))|((with_reducible apply zAF);rfl;rfl;rfl;exact(by constructor);(intro a;(try simp only[Bool.and_eq_true,Bool.not_eq_true']at a);(first|subst a|(obtain⟨c,d⟩:=a;subst c;subst d)|(obtain⟨⟨c,d⟩,o⟩:=a;subst c;subst d;subst o));(try simp only[zm,z7,Bool.not_true,Bool.not_false,Bool.true_and,Bool.false_and,Bool.and_self]);go_simp;with_reducible rfl);(simp only[nr])))|((with_reducible apply zAj);rfl;rfl;first|((with_reducible apply zAg);rfl;rfl;rfl;rfl;(simp only[nr]))|((with_reducible apply zAh);rfl;rfl;rfl;rfl;(simp only[nr]))|((with_reducible apply zAR);rfl;rfl;rfl;rfl;rfl;(simp only[nr]))|((with_reducible apply zA7);rfl;rfl;rfl;rfl;rfl;(simp only[nr])))|go_values|go_guarded|go_step|go_upon|go_back|dsimp only)
   ·go_ret;refine⟨zI (b:=zB6 s.data.toList) ?_,rfl⟩;rw[zGm (k:=k) (by simpa using j)];rw[g.out];simp only[Hid]at*
    subst_vars
    simp only[decide_eq_false_iff_not];simp at*;omega
   go_round
   case rel=>
    refine⟨k+1,by omega,by go_num,zCK q ?_⟩;rw[g.out];simp only[Hid]at*
    subst_vars
    simp only[decide_eq_true_eq];simp at*;omega
   case measure=>simp[intOf];omega
  obtain rfl:k=s.size:=by omega
  have he:=zIR (l:=s.data.toList) (by simpa using q.out);have t:=hid he;clear he q
  repeat' (first|(go_big_may;fail)|((with_reducible apply zBU);rfl;first|((with_reducible apply zBT);rfl;rfl;rfl;exact zAn.app;intro m f;(simp only[nr]))|((with_reducible apply zBM);rfl;rfl;rfl;exact zAn.app;intro m f;(simp only[nr]))|((with_reducible apply zAk);rfl;rfl;rfl;rfl;exact(by constructor);rfl;(simp only[nr]))|((with_reducible apply zA9);rfl;first|((with_reducible apply zAJ);rfl;rfl;rfl;exact(by constructor);rfl;rfl;rfl;rfl;(simp only[nr]))|((with_reducible apply zAS);rfl;rfl;rfl;exact(by constructor);rfl;rfl;rfl;rfl;(simp only[nr])))|((with_reducible apply zAF);rfl;rfl;rfl;exact(by constructor);(intro a;(try simp only[Bool.and_eq_true,Bool.not_eq_true']at a);(first|subst a|(obtain⟨c,d⟩:=a;subst c;subst d)|(obtain⟨⟨c,d⟩,o⟩:=a;subst c;subst d;subst o));(try simp only[zm,z7,Bool.not_true,Bool.not_false,Bool.true_and,Bool.false_and,Bool.and_self]);go_simp;with_reducible rfl);(simp only[nr])))|((with_reducible apply zAj);rfl;rfl;first|((with_reducible apply zAg);rfl;rfl;rfl;rfl;(simp only[nr]))|((with_reducible apply zAh);rfl;rfl;rfl;rfl;(simp only[nr]))|((with_reducible apply zAR);rfl;rfl;rfl;rfl;rfl;(simp only[nr]))|((with_reducible apply zA7);rfl;rfl;rfl;rfl;rfl;(simp only[nr])))|go_values|go_guarded|go_step|go_upon|go_back|dsimp only)
  go_ret;refine⟨zI (b:=zB6 s.data.toList) ?_,rfl⟩;rw[t.out];simp only[Hid]at*
  subst_vars
  have n:decide ((s.size:Int)<=24)=decide (s.size<=24):=by rw[Bool.eq_iff_iff];simp only[decide_eq_true_eq];omega
  rw[n,ByteArray.toList_eq,show s.data.toList.isEmpty=decide (s.data.toList=[]) from by rw[Bool.eq_iff_iff];simp];simp
theorem Tryz.zero4(w:World):(zeroValue 4).run prog w= .ok (.bool false) w:=by kernel_rfl
def zDZ(kv:List (ByteArray × Value))(l:List ByteArray):Prop:=∀x,(x∈l->zAA kv x=some (.bool true))/\(x∉l->zAA kv x=none)
theorem zDZ.add{b:List (ByteArray × Value)}(h:zDZ b l)(x:ByteArray):zDZ (zAq b x (.bool true)) (l++[x]):=λy=>by
 by_cases e:y=x
 ·subst e;exact⟨λ_=>zF6 _ _ _,λc=>absurd (by simp) c⟩
 exact⟨λa=>by rw[zDr e];exact(h y).1 (by simpa[e]using a),λa=>by rw[zDr e];exact(h y).2 (by simp at a;exact a.1)⟩
theorem zDZ.look{c:List (ByteArray × Value)}(h:zDZ c l)(x:ByteArray):∃b:Bool,(zAA c x).getD (.bool false)= .bool b/\(b=true↔x∈l):=by
 by_cases a:x∈l
 ·exact⟨true,by rw[(h x).1 a];rfl,by simp[a]⟩
 exact⟨false,by rw[(h x).2 a];rfl,by simp[a]⟩
theorem zDF(Z:zD)(v:Value)(ds:List zE)(w:World)(hd:Facts Z w v ds):
  Calls prog 50 #[.agg #[v]] w λe w'=>e= .returned (.bool (zT ds))/\Bw w w':=by
 obtain⟨⟨A,J,rfl,ae,_,O,hs⟩,L⟩:=hd;have ah:= @run_makeMap prog;go_enter func50,ntmps50
 go_wp2;go_loopw[12] (λi wr=>∃(k:Nat)(kv:List (ByteArray × Value)),k<=ds.length/\i= .int .i64 k/\zS encS wr (w.heap.size+1) kv/\wr.cell? ⟨w.heap.size,0,none⟩=some (.slice A ds.length J)/\Bw w wr/\Hid (zIS ds k)/\Hid (zDZ kv (names (ds.take k)))) (λi _=>ds.length-(intOf i).toNat)
 case atStart=>
  refine⟨0,[],Nat.zero_le _,rfl,?_,by simp,((Below.refl _ _).alloc (Nat.le_refl _) _).alloc (by simp) _,zQs _,λx=>⟨λh=>by simp[names]at h,λ_=>rfl⟩⟩;simpa using zS.made (w.alloc (.cells #[.slice A ds.length J] 25)) encS
 case round=>
  obtain⟨k,kv,hk,rfl,c,s,a,u,d⟩:=hrel;by_cases y:k<ds.length
  ·obtain⟨b,ai,cs,rfl,hz,U,rfl⟩:=hs.at_ y;have V:=L ds[k] (List.getElem_mem y);have C:=hid (zOS y);have E:=hid (zQt y u);have ad:=hid (zXN y);have T:b<w.heap.size:=lt_of_cell (zEP U).1;obtain⟨c0,c1,c2,c3⟩:=zEP (zDj a T U);clear U hs;have HF:Hid (∃f,f=ds[k]):=⟨_,rfl⟩;generalize ds[k]=f at*;obtain⟨Q,kd,lo,hi⟩:=f;obtain⟨M,Y,aa,W⟩:=V;simp only at c0 c1 c2 c3 M Y aa W;obtain⟨sb,N,D⟩:=d.look Q;have H:=hid D;clear D
   have ab:∀o,(Instr.lookup 95 (.map (some (w.heap.size+1))) (.string Q) false).run prog (wr.alloc o)= .ok (.bool sb) (wr.alloc o):=λo=>by
    have:=zS.look (w:=wr.alloc o) (c.of_block (Below.heap_alloc _ _ _ c.lt)) (zAK (P:=prog) (k:=9) underlying9) (t:=95) (e:=4) underlying95 (Tryz.zero4 _) Q false;simpa[encS,N]using this
   clear N;(have F:=λo=>c.of_block (w':=wr.alloc o) (Below.heap_alloc _ _ _ c.lt));clear c
   repeat' (first|(go_big_may;first
    |(go_at_call 97;refine(zRA _ M _).mono ?_;rintro e w' ⟨rfl,rfl⟩;dsimp only)
    |(at_mapUpdate;refine zA6 rfl (.tmp 67) (.tmp 69) _ rfl (zAK (P:=prog) (k:=9) underlying9) (e:=4) underlying95 rfl (F _) Q rfl ?_;intro w1 ac X ag K af))|((with_reducible apply zBU);rfl;first|((with_reducible apply zBT);rfl;rfl;rfl;exact zAn.app;intro I q;(simp only[nr]))|((with_reducible apply zBM);rfl;rfl;rfl;exact zAn.app;intro I q;(simp only[nr]))|((with_reducible apply zAl);rfl;rfl;rfl;simp only[])|((with_reducible apply zAx);rfl;rfl;(first|exact Or.inl rfl|exact Or.inr rfl);(simp only[nr]))|((with_reducible apply zAk);rfl;rfl;rfl;rfl;exact(by constructor);rfl;(simp only[nr]))|((with_reducible apply zAo);rfl;rfl;rfl;rfl;exact(by constructor);rfl;(simp only[nr]))|((with_reducible apply zA9);rfl;first|((with_reducible apply zAJ);rfl;rfl;rfl;exact(by constructor);rfl;rfl;rfl;rfl;(simp only[nr]))|((with_reducible apply zAS);rfl;rfl;rfl;exact(by constructor);rfl;rfl;rfl;rfl;(simp only[nr])))|((with_reducible apply zAF);rfl;rfl;rfl;exact(by constructor);(intro B;(try simp only[Bool.and_eq_true,Bool.not_eq_true']at B);(first|subst B|(obtain⟨g,j⟩:=B;subst g;subst j)|(obtain⟨⟨g,j⟩,R⟩:=B;subst g;subst j;subst R));(try simp only[zm,z7,Bool.not_true,Bool.not_false,Bool.true_and,Bool.false_and,Bool.and_self]);go_simp;with_reducible rfl);(simp only[nr]))|((with_reducible apply zAi);rfl;rfl;rfl;all_goals(intro n;subst n;(try simp only[zm,z7,Bool.not_true,Bool.not_false,Bool.true_and,Bool.false_and,Bool.and_self])))|((with_reducible apply zA8);rfl;rfl;rfl;all_goals(intro n;(first|subst n|((try simp only[Bool.and_eq_true,Bool.not_eq_true']at n);obtain⟨g,j⟩:=n;subst g;subst j));(try simp only[zm,z7,Bool.not_true,Bool.not_false,Bool.true_and,Bool.false_and,Bool.and_self]))))|((with_reducible apply zAj);rfl;rfl;first|((with_reducible apply zAg);rfl;rfl;rfl;rfl;(simp only[nr]))|((with_reducible apply zAh);rfl;rfl;rfl;rfl;(simp only[nr]))|((with_reducible apply zAR);rfl;rfl;rfl;rfl;rfl;(simp only[nr]))|((with_reducible apply zA7);rfl;rfl;rfl;rfl;rfl;(simp only[nr])))|go_values|go_guarded|go_step|go_upon|go_back|dsimp only)
   ·go_ret;refine⟨zI (b:=zT ds) ?_,a.alloc a.size _⟩;rw[C (Or.inl (zTN ?_))];simp only[Hid]at*
    subst_vars
    exact q.trans (by simp only[Bool.not_and])
   ·(have z:I=true\/sb=true:=by assumption);go_ret;refine⟨zI (b:=zT ds) ?_,a.alloc a.size _⟩;rw[C ?_];simp only[Hid]at*
    subst_vars
    rcases z with z|z
    ·exact .inl (zNB (by simpa using z))
    exact .inr (H.1 z)
   (have m:I=false/\sb=false:=by assumption);go_roundw
   case rel=>
    refine⟨k+1,_,by omega,by go_num,ac,?_,zAG (a.alloc a.size _) X (by omega) (by simp;have:=a.size;omega),?_,?_⟩
    ·rw[K,World.cell?_alloc_past _ _ _ (lt_of_cell s)];exact s
    ·simp only[Hid]at*
     subst_vars
     refine E (zSN ?_ (by simpa using m.1)) (λh=>by rw[H.2 h]at m;simp at m);exact q.trans (by simp only[Bool.not_and])
    rw[ad.out];simp only[Hid,names,List.map_append,List.map_cons,List.map_nil]at*;exact d.add _
   case measure=>simp[intOf];omega
  obtain rfl:k=ds.length:=by omega
  have G:=hid (zOT u);clear u d
  repeat' (first|(go_big_may;fail)|((with_reducible apply zBU);rfl;first|((with_reducible apply zBT);rfl;rfl;rfl;exact zAn.app;intro I q;(simp only[nr]))|((with_reducible apply zBM);rfl;rfl;rfl;exact zAn.app;intro I q;(simp only[nr]))|((with_reducible apply zAl);rfl;rfl;rfl;simp only[])|((with_reducible apply zAx);rfl;rfl;(first|exact Or.inl rfl|exact Or.inr rfl);(simp only[nr]))|((with_reducible apply zAk);rfl;rfl;rfl;rfl;exact(by constructor);rfl;(simp only[nr]))|((with_reducible apply zAo);rfl;rfl;rfl;rfl;exact(by constructor);rfl;(simp only[nr]))|((with_reducible apply zA9);rfl;first|((with_reducible apply zAJ);rfl;rfl;rfl;exact(by constructor);rfl;rfl;rfl;rfl;(simp only[nr]))|((with_reducible apply zAS);rfl;rfl;rfl;exact(by constructor);rfl;rfl;rfl;rfl;(simp only[nr])))|((with_reducible apply zAF);rfl;rfl;rfl;exact(by constructor);(intro B;(try simp only[Bool.and_eq_true,Bool.not_eq_true']at B);(first|subst B|(obtain⟨g,j⟩:=B;subst g;subst j)|(obtain⟨⟨g,j⟩,R⟩:=B;subst g;subst j;subst R));(try simp only[zm,z7,Bool.not_true,Bool.not_false,Bool.true_and,Bool.false_and,Bool.and_self]);go_simp;with_reducible rfl);(simp only[nr]))|((with_reducible apply zAi);rfl;rfl;rfl;all_goals(intro n;subst n;(try simp only[zm,z7,Bool.not_true,Bool.not_false,Bool.true_and,Bool.false_and,Bool.and_self])))|((with_reducible apply zA8);rfl;rfl;rfl;all_goals(intro n;(first|subst n|((try simp only[Bool.and_eq_true,Bool.not_eq_true']at n);obtain⟨g,j⟩:=n;subst g;subst j));(try simp only[zm,z7,Bool.not_true,Bool.not_false,Bool.true_and,Bool.false_and,Bool.and_self]))))|((with_reducible apply zAj);rfl;rfl;first|((with_reducible apply zAg);rfl;rfl;rfl;rfl;(simp only[nr]))|((with_reducible apply zAh);rfl;rfl;rfl;rfl;(simp only[nr]))|((with_reducible apply zAR);rfl;rfl;rfl;rfl;rfl;(simp only[nr]))|((with_reducible apply zA7);rfl;rfl;rfl;rfl;rfl;(simp only[nr])))|go_values|go_guarded|go_step|go_upon|go_back|dsimp only)
  go_ret;refine⟨zI (b:=zT ds) ?_,a⟩;rw[G.out,Bool.eq_iff_iff];simp only[decide_eq_true_eq];omega
theorem Tryz.egSize1:∀args w,(callFunc 254 args).run prog w= .ok (.enter 254 args) w:=enters_of func254 (by kernel_rfl) rfl
theorem zSS(Bn Bd Bv:Nat)(x:Bn≠Bd)(D:Bn≠Bv)(E:Bd≠Bv)(Z:zD)(W:¬Z Bn)(V:¬Z Bd):∀(m:Nat)(f:Fm),zH f<=m->∀(cs:List Value)(lv n d:Int)(w:World),FmR Z w f cs->
  0<=n->0<=d->0<=lv->n+zH f<=4611686018427387904->d<=4611686018427387904->lv+zCv f<=4611686018427387904->
  One w Bn (.int .i64 n)->One w Bd (.int .i64 d)->One w Bv (.func (.func 254) #[] #[.pointer (some ⟨Bn,0,none⟩),.pointer (some ⟨Bd,0,none⟩),.pointer (some ⟨Bv,0,none⟩)])->
  Calls prog 254 #[.agg cs.toArray,.int .i64 lv,.pointer (some ⟨Bn,0,none⟩),.pointer (some ⟨Bd,0,none⟩),.pointer (some ⟨Bv,0,none⟩)] w λe w'=>
   e= .returned (.tuple #[])/\One w' Bn (.int .i64 (n+zH f))/\One w' Bd (.int .i64 (max d (lv+zCv f-1)))/\zA (λb=>b≠Bn/\b≠Bd) w w':=by
 intro m
 induction m with
 |zero=>intro f hm;have:=zCH f;omega
 |succ m ih=>
 intro f hm cs lv n d w hf aj ad ah ak ae ai s c q;have eg:=Tryz.egSize1;have IH:=hid ih;clear ih;obtain⟨op,B,v,C,kids⟩:=f;unfold FmR at hf;obtain⟨_,_,_,_,A,ac,rfl,ab,_,af,I⟩:=hf
 have ag:kids.length<=4611686018427387904:=by
  have h1:=zCA kids;have h2:=zCQ (.mk op B v C kids);simp only[Fm.kids]at h2;omega
 have hs:=zAD.seq I;have HS:=hid hs;clear I hs;have n1:=s.cell;have n2:=s.free;have n3:=s.lt;have d1:=c.cell;have d2:=c.free;have d3:=c.lt;have v1:=q.cell;have v3:=q.lt;go_enter func254,ntmps254
 go_wp2;go_region;all_goals(go_wp2)
 all_goals
  go_loopw[17] (λi wr=>∃k:Nat,k<=kids.length/\i= .int .i64 k/\One wr Bn (.int .i64 (n+1+zV (kids.take k)))/\One wr Bd (.int .i64 (max (max d lv) (lv+zBE (kids.take k))))/\One wr Bv (.func (.func 254) #[] #[.pointer (some ⟨Bn,0,none⟩),.pointer (some ⟨Bd,0,none⟩),.pointer (some ⟨Bv,0,none⟩)])/\zA (λb=>b≠Bn/\b≠Bd) w wr) (λi _=>kids.length-(intOf i).toNat)
  case atStart=>
   refine⟨0,Nat.zero_le _,rfl,?_,?_,.drew (.alloc (.far (p:=⟨Bd,0,none⟩) (.far (p:=⟨Bn,0,none⟩) q D.symm _) E.symm _) _),.drew (.alloc (.setCell (p:=⟨Bd,0,none⟩) (.setCell (p:=⟨Bn,0,none⟩) (.refl _ _) (λ_ h=>h.1 rfl) _) (λ_ h=>h.2 rfl) _) _)⟩
   ·rw[show n+1+((zV (kids.take 0):Nat):Int)=n+1 from by simp[zV]];exact .drew (.alloc (.far (p:=⟨Bd,0,none⟩) (.set_ s _) x _) _)
   first
    |(rw[show max (max d lv) (lv+((zBE (kids.take 0):Nat):Int))=lv from by simp[zBE];omega];exact .drew (.alloc (.set_ (.far (p:=⟨Bn,0,none⟩) c x.symm _) _) _))
    |(rw[show max (max d lv) (lv+((zBE (kids.take 0):Nat):Int))=d from by simp[zBE];omega];exact .drew (.alloc (.set_ (.far (p:=⟨Bn,0,none⟩) c x.symm _) _) _))
  case round=>
   clear n1 n2 n3 d1 d2 d3 v1 v3 s c q;obtain⟨k,hk,rfl,s,c,q,z⟩:=hrel;by_cases a:k<kids.length
   ·obtain⟨b,X,cs,rfl,hz,F,y⟩:=HS.at_ a;have J:zA Z w wr:=z.mono (λb _ hb=>⟨λe=>W (e▸hb),λe=>V (e▸hb)⟩);have t:=FmR.keep J _ _ y;have HF:=hid t;obtain⟨A',aa,rfl⟩:=FmR.form y;have L:=zBX a;have G:=zGE a;have P:=zBz a;have K:=zSO a;have R:=zB3 kids k;have T:=zHI kids k;have U:=zB3 kids (k+1);have M:=zCQ (.mk op B v C kids);have N:=zMh (.mk op B v C kids);simp only[Fm.kids]at M N;clear y t;obtain⟨c0,c1,c2,c3,c4⟩:=zAL (λj u hu=>J.cell (p:=⟨b,X+k*5+j,none⟩) hz (F j u hu));clear F;have n1:=s.lt;have d1:=c.lt;have v1:=q.cell;have v3:=q.lt;have HC:=hid (λo=>IH kids[k] (by omega) _ (lv+1) _ _ (wr.alloc o) (FmR.keep ((zA.refl Z wr).alloc o) _ _ HF) (by omega) (by omega) (by omega) (by omega) (by omega) (by omega) (s.alloc o) (c.alloc o) (q.alloc o));have Y:=hid (And.intro L G);clear L G M N P K R T U;generalize kids[k]=g at*;(go_wp2_with fail);refine(HC _).mono ?_;rintro e w1 ⟨rfl,Q,O,H⟩;go_wp2;go_roundw
    case rel=>
     refine⟨k+1,by omega,by go_num,?_,?_,q.of_block (((H.block Bv (by simp;omega) ⟨D.symm,E.symm⟩)).trans (Below.heap_alloc _ _ _ q.lt)),z.trans (((zA.refl _ _).alloc _).trans H)⟩
     ·have e:=Y.1;rw[show n+1+((zV (kids.take (k+1)):Nat):Int)=n+1+((zV (kids.take k):Nat):Int)+(zH g:Nat) from by omega];exact Q
     have e:=Y.2;rw[show max (max d lv) (lv+((zBE (kids.take (k+1)):Nat):Int))=max (max (max d lv) (lv+((zBE (kids.take k):Nat):Int))) (lv+1+((zCv g:Nat):Int)-1) from by omega];exact O
    case measure=>simp[intOf];omega
   (obtain rfl:k=kids.length:=by omega);go_wp2;go_end0;refine⟨rfl,?_,?_,z⟩
   ·have M:=zCQ (.mk op B v C kids);simp only[Fm.kids]at M;rw[show n+((zH (.mk op B v C kids):Nat):Int)=n+1+((zV (kids.take kids.length):Nat):Int) from by rw[List.take_length];omega];exact s
   have N:=zMh (.mk op B v C kids);simp only[Fm.kids]at N;rw[show max d (lv+((zCv (.mk op B v C kids):Nat):Int)-1)=max (max d lv) (lv+((zBE (kids.take kids.length):Nat):Int)) from by rw[List.take_length];omega];exact c
theorem zTR(Z:zD)(f:Fm)(cs:List Value)(w:World)(j:FmR Z w f cs)(u:zH f<=4000000000000000000)(m:∀b,Z b->b<w.heap.size):
  Calls prog 235 #[.agg cs.toArray] w λe w'=>e= .returned (.tuple #[.int .i64 (zH f),.int .i64 (zCv f)])/\Bw w w':=by
 have t:=zHJ f;obtain⟨A,c,rfl⟩:=FmR.form j;have x:=Tryz.egSize1;let i:=((((w.alloc (.cells #[.int .i64 f.op,.string f.name,.int .i64 f.cmp,.int .i64 f.num,.slice A f.kids.length c] 52)).alloc (.cells #[.int .i64 0] 3)).alloc (.cells #[.int .i64 0] 3)).alloc (.cells #[.func (.func 254) #[] #[.pointer (some ⟨w.heap.size+1,0,none⟩),.pointer (some ⟨w.heap.size+1+1,0,none⟩),.pointer (some ⟨w.heap.size+1+1+1,0,none⟩)]] 292))
 have n:=hid (zSS (w.heap.size+1) (w.heap.size+1+1) (w.heap.size+1+1+1) (by omega) (by omega) (by omega) Z (λh=>by have:=m _ h;omega) (λh=>by have:=m _ h;omega) (zH f) f (Nat.le_refl _) _ 1 0 0 i
  (FmR.keep (.alloc (.alloc (.alloc (.alloc (.refl _ _) _) _) _) _) _ _ j) (by omega) (by omega) (by omega) (by omega) (by omega) (by omega)
  (.alloc (.alloc (by simpa using One.new (w.alloc (.cells #[.int .i64 f.op,.string f.name,.int .i64 f.cmp,.int .i64 f.num,.slice A f.kids.length c] 52)) (.int .i64 0) 3) _) _)
  (.alloc (by simpa using One.new ((w.alloc (.cells #[.int .i64 f.op,.string f.name,.int .i64 f.cmp,.int .i64 f.num,.slice A f.kids.length c] 52)).alloc (.cells #[.int .i64 0] 3)) (.int .i64 0) 3) _)
  (by
    have:=One.new (((w.alloc (.cells #[.int .i64 f.op,.string f.name,.int .i64 f.cmp,.int .i64 f.num,.slice A f.kids.length c] 52)).alloc (.cells #[.int .i64 0] 3)).alloc (.cells #[.int .i64 0] 3)) (.func (.func 254) #[] #[.pointer (some ⟨w.heap.size+1,0,none⟩),.pointer (some ⟨w.heap.size+1+1,0,none⟩),.pointer (some ⟨w.heap.size+1+1+1,0,none⟩)]) 292;simp only[World.size_alloc]at this
    exact this))
 have q:Bw w i:= .alloc (.alloc (.alloc (.alloc (.refl _ _) (Nat.le_refl _) _) (by simp) _) (by simp;omega) _) (by simp;omega) _;have s:i.heap.size=w.heap.size+4:=by simp[i]
 clear j;go_enter func235,ntmps235
 go_wp2_with fail
 refine n.mono ?_;rintro e z ⟨rfl,g,d,a⟩;have v:=g.cell;have o:=d.cell;rw[show(0:Int)+((zH f:Nat):Int)=(zH f:Nat) from by omega]at v;rw[show max (0:Int) (1+((zCv f:Nat):Int)-1)=(zCv f:Nat) from by omega]at o;clear g d;go_wp2;go_quiet(fail);go_wp2;go_ret2;exact⟨rfl,below_drewN' (q.trans ⟨a.os,a.tape,a.output,a.size,λk y=>a.block k (by omega) (by omega)⟩) _⟩
theorem zST(Z:zD)(f:Fm)(cs:List Value)(w:World)(i:FmR Z w f cs)(j:zH f<=4000000000000000000)(s:∀b,Z b->b<w.heap.size):
  Calls prog 201 #[.agg cs.toArray] w λe w'=>e= .returned (.bool (zDl f))/\Bw w w':=by
 obtain⟨A,m,rfl⟩:=FmR.form i;have k:=hid (λo=>zTR Z f _ (w.alloc o) (FmR.keep (.alloc (.refl _ _) o) _ _ i) j (λb h=>by have:=s b h;simp;omega));clear i;go_enter func201,ntmps201
 go_wp2_with fail
 refine(k _).mono ?_;rintro e u ⟨rfl,g⟩;dsimp only
 repeat' (first|(go_big_may;fail)|((with_reducible apply zBU);rfl;first|((with_reducible apply zBT);rfl;rfl;rfl;exact zAn.app;intro t q;(simp only[nr]))|((with_reducible apply zAF);rfl;rfl;rfl;exact(by constructor);(intro a;(try simp only[Bool.and_eq_true,Bool.not_eq_true']at a);(first|subst a|(obtain⟨c,d⟩:=a;subst c;subst d)|(obtain⟨⟨c,d⟩,n⟩:=a;subst c;subst d;subst n));(try simp only[zm,z7,Bool.not_true,Bool.not_false,Bool.true_and,Bool.false_and,Bool.and_self]);go_simp;with_reducible rfl);(simp only[nr])))|((with_reducible apply zAj);rfl;rfl;first|((with_reducible apply zAg);rfl;rfl;rfl;rfl;(simp only[nr]))|((with_reducible apply zAh);rfl;rfl;rfl;rfl;(simp only[nr]))|((with_reducible apply zAR);rfl;rfl;rfl;rfl;rfl;(simp only[nr]))|((with_reducible apply zA7);rfl;rfl;rfl;rfl;rfl;(simp only[nr])))|go_values|go_guarded|go_step|go_upon|go_back|dsimp only)
 go_ret;refine⟨zI ?_,(zG w _).trans (g.mono (by simp))⟩;simp only[Hid]at*
 subst_vars
 unfold zDl;congr 1
 ·rw[Bool.eq_iff_iff];simp only[decide_eq_true_eq];omega
 rw[Bool.eq_iff_iff];simp only[decide_eq_true_eq];omega
def zUU(P:Program)(g:FuncId)(lb:Array Value)(Z:zD)(w:World)(L:Fm->Int):Prop:=
 ∀(x:Fm) cs W,FmR Z W x cs->Bw w W->Calls P g (#[.agg cs.toArray]++lb) W λe W'=>e= .returned (.int .i64 (L x))/\Bw W W'
theorem zSU(g:FuncId)(lb:Array Value)(eg:∀args w,(callFunc g args).run prog w= .ok (.enter g args) w)(Z:zD)(L:Fm->Int)(X:World)(V:zUU prog g lb Z X L):∀(m:Nat)(f:Fm),zH f<=m->∀(cs:List Value)(w:World),FmR Z w f cs->Bw X w-> 
  Calls prog 202 #[.agg cs.toArray,.func (.func g) #[] lb] w λe w'=>e= .returned (.int .i64 (zA0 L f))/\Bw w w':=by
 have HL:=hid V;clear V;intro m
 induction m with
 |zero=>intro f hm;have:=zCH f;omega
 |succ m ih=>
 intro f hm cs w z H;have IH:=hid ih;clear ih
 have P:f.kids.length*56<=140737488355328:=by
  obtain⟨op,nm,cm,nu,kids⟩:=f;unfold FmR at z;obtain⟨_,_,_,_,A,n,e,E,_,F,G⟩:=z;exact F
 have x:∀A n,cs=[.int .i64 f.op,.string f.name,.int .i64 f.cmp,.int .i64 f.num,.slice A f.kids.length n]->zAW (λcs f=>FmR Z w f cs) 5 Z w f.kids A:=by
  intro A n e;obtain⟨op,nm,cm,nu,kids⟩:=f;unfold FmR at z;obtain⟨_,_,_,_,T,t,c,E,_,F,G⟩:=z;rw[e]at c;simp only[Fm.kids]at c;injection c with _ c;injection c with _ c;injection c with _ c;injection c with _ c;injection c with c;injection c with c;subst c;exact zAD.seq G
 obtain⟨A,n,rfl⟩:=FmR.form z;have U:=hid (x A n rfl);clear x;have I:=hid (λo=>HL f _ (w.alloc o) (FmR.keep (.alloc (.refl _ _) o) _ _ z) (H.alloc H.size o));clear z;have J:=hid (λ(k:Nat)(W:k<f.kids.length)=>zFr W);generalize hF:L f=lf at*;have Y:=hid hF;clear hF;go_enter func202,ntmps202
 go_wp2_with fail
 refine(I _).mono ?_;rintro e w1 ⟨rfl,y⟩;dsimp only;obtain⟨M,O⟩:=zHB y;have D:Bw w w1:=(zG w _).trans (y.mono (by simp));go_wp2;go_loopw[5,14] (λe i wr=>∃k:Nat,k<=f.kids.length/\i= .int .i64 k/\e= .int .i64 (zDs L f k)/\Bw w wr) (λ_ i _=>f.kids.length-(intOf i).toNat);case atStart=>exact⟨0,Nat.zero_le _,rfl,by rw[zQx,Y.out],D⟩
 case round=>
  clear y M O D;obtain⟨k,W,rfl,rfl,a⟩:=hrel;by_cases s:k<f.kids.length
  ·by_cases he:zDs L f k=0
   ·obtain⟨b,B,cs,rfl,R,q,d⟩:=U.at_ s;have h:zA Z w wr:= .of_below a;have v:=FmR.keep h _ _ d;obtain⟨T,t,rfl⟩:=FmR.form d;obtain⟨c0,c1,c2,c3,c4⟩:=zAL (λj u Q=>h.cell (p:=⟨b,B+k*5+j,none⟩) R (q j u Q));have C:=hid (zQy L s he);have I:=hid (λo=>IH f.kids[k] (by have:=J k s;omega) _ (wr.alloc o) (FmR.keep ((zA.refl Z wr).alloc o) _ _ v) ((H.trans (a.mono H.size)).alloc (Nat.le_trans H.size a.size) o));clear q d v h;generalize f.kids[k]=g at*;(have N:((zDs L f k)!=(0:Int))=false:=by simp[he]);have HE:=hid he;clear he;(go_wp2_with fail);refine(I _).mono ?_;rintro e w2 ⟨rfl,K⟩;dsimp only;go_wp2;go_roundw;(case rel=>exact⟨k+1,by omega,by go_num,by rw[C.out],(a.alloc a.size _).trans (K.mono (by simp;have:=a.size;omega))⟩);case measure=>simp[intOf];omega
   obtain⟨b,B,cs,rfl,R,q,d⟩:=U.at_ s;have h:zA Z w wr:= .of_below a;obtain⟨T,t,rfl⟩:=FmR.form d;obtain⟨c0,c1,c2,c3,c4⟩:=zAL (λj u Q=>h.cell (p:=⟨b,B+k*5+j,none⟩) R (q j u Q));clear q d h;generalize f.kids[k]=g at*;have C:=hid (zQz L he);(have N:((zDs L f k)!=(0:Int))=true:=by simp[he]);clear he;go_wp2;go_ret;exact⟨zAz C.symm,a.alloc a.size _⟩
  obtain rfl:k=f.kids.length:=by omega
  have C:=hid (zSP L f);go_wp2;go_ret;exact⟨zAz C.out,a⟩
end Go.Proofs.YtommaegelgilnaaGreatDoor
