/- Lemmas. -/
import Derived.Test.YtommaegelgilnaaGreatDoorM7
set_option linter.all false
namespace Go.Proofs.YtommaegelgilnaaGreatDoor
open Go.RowKit Go.Proofs.Tryz
set_option maxHeartbeats 8000000
set_option maxRecDepth 100000
variable {l:List ByteArray}
theorem Tryz.zero4(w:World):(zeroValue 4).run prog w= .ok (.bool false) w:=by kernel_rfl
def zDZ(kv:List (ByteArray × Value))(l:List ByteArray):Prop:=∀x,(x∈l->zAA kv x=some (.bool true))/\(x∉l->zAA kv x=none)
theorem zDZ.add{b:List (ByteArray × Value)}(h:zDZ b l)(x:ByteArray):zDZ (zAq b x (.bool true)) (l++[x]):=λy=>by
 by_cases e:y=x
 ·subst e;exact⟨λ_=>zF6 _ _ _,λc=>absurd (by simp) c⟩
 ·exact⟨λa=>by rw[zDr e];exact(h y).1 (by simpa[e]using a),λa=>by rw[zDr e];exact(h y).2 (by simp at a;exact a.1)⟩
theorem zDZ.look{c:List (ByteArray × Value)}(h:zDZ c l)(x:ByteArray):∃b:Bool,(zAA c x).getD (.bool false)= .bool b/\(b=true↔x∈l):=by
 by_cases a:x∈l
 ·exact⟨true,by rw[(h x).1 a];rfl,by simp[a]⟩
 ·exact⟨false,by rw[(h x).2 a];rfl,by simp[a]⟩
theorem zDF(Z:zD)(v:Value)(ds:List zE)(w:World)(hd:Facts Z w v ds):
  Calls prog 50 #[.agg #[v]] w λe w'=>e= .returned (.bool (zT ds))/\Bw w w':=by
 obtain⟨⟨A,J,rfl,ae,_,O,hs⟩,L⟩:=hd;have ah:= @run_makeMap prog;go_enter func50,ntmps50
 go_wp2;go_loopw[12] (λi wr=>∃(k:Nat)(kv:List (ByteArray × Value)),k<=ds.length/\i= .int .i64 k/\zS encS wr (w.heap.size+1) kv/\wr.cell? ⟨w.heap.size,0,none⟩=some (.slice A ds.length J)/\Bw w wr/\Hid (zIS ds k)/\Hid (zDZ kv (names (ds.take k)))) (λi _=>ds.length-(intOf i).toNat)
 case atStart=>
  refine⟨0,[],Nat.zero_le _,rfl,?_,by simp,((Below.refl _ _).alloc (Nat.le_refl _) _).alloc (by simp) _,zQs _,λx=>⟨λh=>by simp[names]at h,λ_=>rfl⟩⟩;simpa using zS.made (w.alloc (.cells #[.slice A ds.length J] 25)) encS
 case round=>
  obtain⟨k,kv,hk,rfl,c,s,a,u,d⟩:=hrel;by_cases y:k<ds.length
  ·obtain⟨b,ai,cs,rfl,hz,U,rfl⟩:=hs.at_ y;have V:=L ds[k] (List.getElem_mem y);have C:=hid (zOS y);have E:=hid (zQt y u);have ad:=hid (zXN y);have T:b<w.heap.size:=lt_of_cell (zEP U).1;obtain⟨c0,c1,c2,c3⟩:=zEP (zDj a T U);clear U hs;have HF:Hid (∃f,f=ds[k]):=⟨_,rfl⟩;generalize ds[k]=f at*;obtain⟨Q,kd,lo,hi⟩:=f;obtain⟨M,Y,aa,W⟩:=V;simp only at c0 c1 c2 c3 M Y aa W;obtain⟨sb,N,D⟩:=d.look Q;have H:=hid D;clear D
   have ab:∀o,(Instr.lookup 95 (.map (some (w.heap.size+1))) (.string Q) false).run prog (wr.alloc o)= .ok (.bool sb) (wr.alloc o):=λo=>by
    have:=zS.look (w:=wr.alloc o) (c.of_block (Below.heap_alloc _ _ _ c.lt)) (zAK (P:=prog) (k:=9) underlying9) (t:=95) (e:=4) underlying95 (Tryz.zero4 _) Q false;simpa[encS,N]using this
   clear N;(have F:=λo=>c.of_block (w':=wr.alloc o) (Below.heap_alloc _ _ _ c.lt));clear c
   repeat' (first|(go_big_may;first
    |(go_at_call 97;refine(zRA _ M _).mono ?_;rintro e w' ⟨rfl,rfl⟩;dsimp only)
    |(at_mapUpdate;refine zA6 rfl (.tmp 67) (.tmp 69) _ rfl (zAK (P:=prog) (k:=9) underlying9) (e:=4) underlying95 rfl (F _) Q rfl ?_;intro w1 ac X ag K af))|((with_reducible apply zBU);rfl;first|((with_reducible apply zBT);rfl;rfl;rfl;exact zAn.app;intro I q;(simp only[nr]))|((with_reducible apply zBM);rfl;rfl;rfl;exact zAn.app;intro I q;(simp only[nr]))|((with_reducible apply zAl);rfl;rfl;rfl;simp only[])|((with_reducible apply zAx);rfl;rfl;(first|exact Or.inl rfl|exact Or.inr rfl);(simp only[nr]))|((with_reducible apply zAk);rfl;rfl;rfl;rfl;exact(by constructor);rfl;(simp only[nr]))|((with_reducible apply zAo);rfl;rfl;rfl;rfl;exact(by constructor);rfl;(simp only[nr]))|((with_reducible apply zA9);rfl;first|((with_reducible apply zAJ);rfl;rfl;rfl;exact(by constructor);rfl;rfl;rfl;rfl;(simp only[nr]))|((with_reducible apply zAS);rfl;rfl;rfl;exact(by constructor);rfl;rfl;rfl;rfl;(simp only[nr])))|((with_reducible apply zAF);rfl;rfl;rfl;exact(by constructor);(intro B;(try simp only[Bool.and_eq_true,Bool.not_eq_true']at B);(first|subst B|(obtain⟨g,j⟩:=B;subst g;subst j)|(obtain⟨⟨g,j⟩,R⟩:=B;subst g;subst j;subst R));(try simp only[zm,z7,Bool.not_true,Bool.not_false,Bool.true_and,Bool.false_and,Bool.and_self]);go_simp;with_reducible rfl);(simp only[nr]))|((with_reducible apply zAi);rfl;rfl;rfl;all_goals(intro n;subst n;(try simp only[zm,z7,Bool.not_true,Bool.not_false,Bool.true_and,Bool.false_and,Bool.and_self])))|((with_reducible apply zA8);rfl;rfl;rfl;all_goals(intro n;(first|subst n|((try simp only[Bool.and_eq_true,Bool.not_eq_true']at n);obtain⟨g,j⟩:=n;subst g;subst j));(try simp only[zm,z7,Bool.not_true,Bool.not_false,Bool.true_and,Bool.false_and,Bool.and_self]))))|((with_reducible apply zAj);rfl;rfl;first|((with_reducible apply zAg);rfl;rfl;rfl;rfl;(simp only[nr]))|((with_reducible apply zAh);rfl;rfl;rfl;rfl;(simp only[nr]))|((with_reducible apply zAR);rfl;rfl;rfl;rfl;rfl;(simp only[nr]))|((with_reducible apply zA7);rfl;rfl;rfl;rfl;rfl;(simp only[nr])))|go_values|go_guarded|go_step|go_upon|go_back|dsimp only)
   ·go_ret;refine⟨zI (b:=zT ds) ?_,a.alloc a.size _⟩;rw[C (Or.inl (zTN ?_))];simp only[Hid]at*
    subst_vars
    exact q.trans (by simp only[Bool.not_and])
   ·(have z:I=true\/sb=true:=by assumption);go_ret;refine⟨zI (b:=zT ds) ?_,a.alloc a.size _⟩;rw[C ?_];simp only[Hid]at*
    subst_vars
    rcases z with z|z
    ·exact .inl (zNB (by simpa using z))
    ·exact .inr (H.1 z)
   ·(have m:I=false/\sb=false:=by assumption);go_roundw
    case rel=>
     refine⟨k+1,_,by omega,by go_num,ac,?_,zAG (a.alloc a.size _) X (by omega) (by simp;have:=a.size;omega),?_,?_⟩
     ·rw[K,World.cell?_alloc_past _ _ _ (lt_of_cell s)];exact s
     ·simp only[Hid]at*
      subst_vars
      refine E (zSN ?_ (by simpa using m.1)) (λh=>by rw[H.2 h]at m;simp at m);exact q.trans (by simp only[Bool.not_and])
     ·rw[ad.out];simp only[Hid,names,List.map_append,List.map_cons,List.map_nil]at*;exact d.add _
    case measure=>simp[intOf];omega
  ·(obtain rfl:k=ds.length:=by omega);have G:=hid (zOT u);clear u d
   repeat' (first|(go_big_may;fail)|((with_reducible apply zBU);rfl;first|((with_reducible apply zBT);rfl;rfl;rfl;exact zAn.app;intro I q;(simp only[nr]))|((with_reducible apply zBM);rfl;rfl;rfl;exact zAn.app;intro I q;(simp only[nr]))|((with_reducible apply zAl);rfl;rfl;rfl;simp only[])|((with_reducible apply zAx);rfl;rfl;(first|exact Or.inl rfl|exact Or.inr rfl);(simp only[nr]))|((with_reducible apply zAk);rfl;rfl;rfl;rfl;exact(by constructor);rfl;(simp only[nr]))|((with_reducible apply zAo);rfl;rfl;rfl;rfl;exact(by constructor);rfl;(simp only[nr]))|((with_reducible apply zA9);rfl;first|((with_reducible apply zAJ);rfl;rfl;rfl;exact(by constructor);rfl;rfl;rfl;rfl;(simp only[nr]))|((with_reducible apply zAS);rfl;rfl;rfl;exact(by constructor);rfl;rfl;rfl;rfl;(simp only[nr])))|((with_reducible apply zAF);rfl;rfl;rfl;exact(by constructor);(intro B;(try simp only[Bool.and_eq_true,Bool.not_eq_true']at B);(first|subst B|(obtain⟨g,j⟩:=B;subst g;subst j)|(obtain⟨⟨g,j⟩,R⟩:=B;subst g;subst j;subst R));(try simp only[zm,z7,Bool.not_true,Bool.not_false,Bool.true_and,Bool.false_and,Bool.and_self]);go_simp;with_reducible rfl);(simp only[nr]))|((with_reducible apply zAi);rfl;rfl;rfl;all_goals(intro n;subst n;(try simp only[zm,z7,Bool.not_true,Bool.not_false,Bool.true_and,Bool.false_and,Bool.and_self])))|((with_reducible apply zA8);rfl;rfl;rfl;all_goals(intro n;(first|subst n|((try simp only[Bool.and_eq_true,Bool.not_eq_true']at n);obtain⟨g,j⟩:=n;subst g;subst j));(try simp only[zm,z7,Bool.not_true,Bool.not_false,Bool.true_and,Bool.false_and,Bool.and_self]))))|((with_reducible apply zAj);rfl;rfl;first|((with_reducible apply zAg);rfl;rfl;rfl;rfl;(simp only[nr]))|((with_reducible apply zAh);rfl;rfl;rfl;rfl;(simp only[nr]))|((with_reducible apply zAR);rfl;rfl;rfl;rfl;rfl;(simp only[nr]))|((with_reducible apply zA7);rfl;rfl;rfl;rfl;rfl;(simp only[nr])))|go_values|go_guarded|go_step|go_upon|go_back|dsimp only)
   go_ret;refine⟨zI (b:=zT ds) ?_,a⟩;rw[G.out,Bool.eq_iff_iff];simp only[decide_eq_true_eq];omega
end Go.Proofs.YtommaegelgilnaaGreatDoor
