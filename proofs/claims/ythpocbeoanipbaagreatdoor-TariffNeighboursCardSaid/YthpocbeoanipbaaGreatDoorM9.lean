/- Texts W2. -/
import Derived.Maps.Own
import Derived.Test.YthpocbeoanipbaaGreatDoorM3
set_option linter.all false
namespace Go.Proofs.YthpocbeoanipbaaGreatDoor
open Go.RowKit Go.Proofs.Tryz
set_option maxHeartbeats 8000000
set_option maxRecDepth 100000
variable{l:List ByteArray}
theorem Tryz.zero4(w:World):(zeroValue 4).run prog w= .ok (.bool false) w:=by kernel_rfl
def zFG(kv:List (ByteArray × Value))(l:List ByteArray):Prop:=∀x,(x∈l->zg kv x=some (.bool true))/\(x∉l->zg kv x=none)
theorem zFG.add{b:List (ByteArray × Value)}(h:zFG b l)(x:ByteArray):zFG (zAU b x (.bool true)) (l++[x]):=λy=>by
 by_cases e:y=x
 ·subst e;exact⟨λ_=>zMv _ _ _,λc=>absurd (by simp) c⟩
 ·exact⟨λa=>by rw[zHd e];exact(h y).1 (by simpa[e]using a),λa=>by rw[zHd e];exact(h y).2 (by simp at a;exact a.1)⟩
theorem zFG.look{c:List (ByteArray × Value)}(h:zFG c l)(x:ByteArray):∃b:Bool,(zg c x).getD (.bool false)= .bool b/\(b=true↔x∈l):=by
 by_cases a:x∈l
 ·exact⟨true,by rw[(h x).1 a];rfl,by simp[a]⟩
 ·exact⟨false,by rw[(h x).2 a];rfl,by simp[a]⟩
theorem zDB(Z:zE)(v:Value)(ds:List zC)(w:World)(hd:Facts Z w v ds):
  Calls prog 32 #[.agg #[v]] w λe w'=>e= .returned (.bool (zN ds))/\Bw w w':=by
 obtain⟨⟨A,J,rfl,ae,_,O,hs⟩,L⟩:=hd;have ah:= @run_makeMap prog;go_enter func32,ntmps32
 go_wp2;go_loopw[12] (λi wr=>∃(k:Nat)(kv:List (ByteArray × Value)),k<=ds.length/\i= .int .i64 k/\zW encS wr (w.heap.size+1) kv/\wr.cell? ⟨w.heap.size,0,none⟩=some (.slice A ds.length J)/\Bw w wr/\Hid (zIg ds k)/\Hid (zFG kv (names (ds.take k)))) (λi _=>ds.length-(intOf i).toNat)
 case atStart=>
  refine⟨0,[],Nat.zero_le _,rfl,?_,by simp,((Below.refl _ _).alloc (Nat.le_refl _) _).alloc (by simp) _,zRZ _,λx=>⟨λh=>by simp[names]at h,λ_=>rfl⟩⟩;simpa using zW.made (w.alloc (.cells #[.slice A ds.length J] 24)) encS
 case round=>
  obtain⟨k,kv,hk,rfl,c,s,a,u,d⟩:=hrel;by_cases y:k<ds.length
  ·obtain⟨b,ai,cs,rfl,hz,U,rfl⟩:=hs.at_ y;have V:=L ds[k] (List.getElem_mem y);have C:=hid (zOr y);have E:=hid (zR0 y u.out);have ad:=hid (zAu y);have T:b<w.heap.size:=lt_of_cell (zD5 U).1;obtain⟨c0,c1,c2,c3⟩:=zD5 (zBV a T U);clear U hs;have HF:Hid (∃f,f=ds[k]):=⟨_,rfl⟩;generalize ds[k]=f at*;obtain⟨Q,kd,lo,hi⟩:=f;obtain⟨M,Y,aa,W⟩:=V;simp only at c0 c1 c2 c3 M Y aa W;obtain⟨sb,N,D⟩:=d.out.look Q;have H:=hid D;clear D
   have ab:∀o,(Instr.lookup 123 (.map (some (w.heap.size+1))) (.string Q) false).run prog (wr.alloc o)= .ok (.bool sb) (wr.alloc o):=λo=>by
    have:=zW.look (w:=wr.alloc o) (c.of_block (Below.heap_alloc _ _ _ c.lt)) (zBb (P:=prog) (k:=9) underlying9) (t:=123) (e:=4) underlying123 (Tryz.zero4 _) Q false;simpa[encS,N]using this
   clear N;(have F:=λo=>c.of_block (w':=wr.alloc o) (Below.heap_alloc _ _ _ c.lt));clear c
   repeat' (first|(go_big_may;first
    |(go_at_call 63;refine(zRv _ M _).mono ?_;rintro e w' ⟨rfl,rfl⟩;dsimp only)
    |(at_mapUpdate;refine zCB rfl (.tmp 67) (.tmp 69) _ rfl (zBb (P:=prog) (k:=9) underlying9) (e:=4) underlying123 rfl (F _) Q rfl ?_;intro w1 ac X ag K af))|((with_reducible apply zDF);rfl;first|((with_reducible apply zDE);rfl;rfl;rfl;exact zBz.app;intro I q;(simp only[nr]))|((with_reducible apply zCp);rfl;rfl;rfl;exact zBz.app;intro I q;(simp only[nr]))|((with_reducible apply zCO);rfl;rfl;rfl;simp only[])|((with_reducible apply zC2);rfl;rfl;(first|exact Or.inl rfl|exact Or.inr rfl);(simp only[nr]))|((with_reducible apply zCN);rfl;rfl;rfl;rfl;exact(by constructor);rfl;(simp only[nr]))|((with_reducible apply zCA);rfl;rfl;rfl;rfl;exact(by constructor);rfl;(simp only[nr]))|((with_reducible apply zBo);rfl;first|((with_reducible apply zBR);rfl;rfl;rfl;exact(by constructor);rfl;rfl;rfl;rfl;(simp only[nr]))|((with_reducible apply zB6);rfl;rfl;rfl;exact(by constructor);rfl;rfl;rfl;rfl;(simp only[nr])))|((with_reducible apply zAv);rfl;rfl;rfl;exact(by constructor);(intro B;(try simp only[Bool.and_eq_true,Bool.not_eq_true']at B);(first|subst B|(obtain⟨g,j⟩:=B;subst g;subst j)|(obtain⟨⟨g,j⟩,R⟩:=B;subst g;subst j;subst R));(try simp only[zAq,zA7,Bool.not_true,Bool.not_false,Bool.true_and,Bool.false_and,Bool.and_self]);go_simp;with_reducible rfl);(simp only[nr]))|((with_reducible apply zCL);rfl;rfl;rfl;all_goals(intro n;subst n;(try simp only[zAq,zA7,Bool.not_true,Bool.not_false,Bool.true_and,Bool.false_and,Bool.and_self])))|((with_reducible apply zBn);rfl;rfl;rfl;all_goals(intro n;(first|subst n|((try simp only[Bool.and_eq_true,Bool.not_eq_true']at n);obtain⟨g,j⟩:=n;subst g;subst j));(try simp only[zAq,zA7,Bool.not_true,Bool.not_false,Bool.true_and,Bool.false_and,Bool.and_self]))))|((with_reducible apply zCM);rfl;rfl;first|((with_reducible apply zCJ);rfl;rfl;rfl;rfl;(simp only[nr]))|((with_reducible apply zCK);rfl;rfl;rfl;rfl;(simp only[nr]))|((with_reducible apply zB5);rfl;rfl;rfl;rfl;rfl;(simp only[nr]))|((with_reducible apply zBm);rfl;rfl;rfl;rfl;rfl;(simp only[nr])))|go_values|go_guarded|go_step|go_upon|go_back|dsimp only)
   ·go_ret;refine⟨zAb (b:=zN ds) ?_,a.alloc a.size _⟩;rw[C.out (Or.inl (zUG ?_))];simp only[Hid]at*
    subst_vars
    exact q.trans (by simp only[Bool.not_and])
   ·(have z:I=true\/sb=true:=by assumption);go_ret;refine⟨zAb (b:=zN ds) ?_,a.alloc a.size _⟩;rw[C.out ?_];simp only[Hid]at*
    subst_vars
    rcases z with z|z
    ·exact .inl (zOL (by simpa using z))
    ·exact .inr (H.1 z)
   ·(have m:I=false/\sb=false:=by assumption);go_roundw
    case rel=>
     refine⟨k+1,_,by omega,by go_num,ac,?_,zd (a.alloc a.size _) X (by omega) (by simp;have:=a.size;omega),?_,?_⟩
     ·rw[K,World.cell?_alloc_past _ _ _ (lt_of_cell s)];exact s
     ·simp only[Hid]at*
      subst_vars
      refine E (zSx ?_ (by simpa using m.1)) (λh=>by rw[H.2 h]at m;simp at m);exact q.trans (by simp only[Bool.not_and])
     ·rw[ad.out];simp only[Hid,names,List.map_append,List.map_cons,List.map_nil]at*;exact d.add _
    case measure=>simp[intOf];omega
  ·(obtain rfl:k=ds.length:=by omega);have G:=hid (zOs u.out);clear u d
   repeat' (first|(go_big_may;fail)|((with_reducible apply zDF);rfl;first|((with_reducible apply zDE);rfl;rfl;rfl;exact zBz.app;intro I q;(simp only[nr]))|((with_reducible apply zCp);rfl;rfl;rfl;exact zBz.app;intro I q;(simp only[nr]))|((with_reducible apply zCO);rfl;rfl;rfl;simp only[])|((with_reducible apply zC2);rfl;rfl;(first|exact Or.inl rfl|exact Or.inr rfl);(simp only[nr]))|((with_reducible apply zCN);rfl;rfl;rfl;rfl;exact(by constructor);rfl;(simp only[nr]))|((with_reducible apply zCA);rfl;rfl;rfl;rfl;exact(by constructor);rfl;(simp only[nr]))|((with_reducible apply zBo);rfl;first|((with_reducible apply zBR);rfl;rfl;rfl;exact(by constructor);rfl;rfl;rfl;rfl;(simp only[nr]))|((with_reducible apply zB6);rfl;rfl;rfl;exact(by constructor);rfl;rfl;rfl;rfl;(simp only[nr])))|((with_reducible apply zAv);rfl;rfl;rfl;exact(by constructor);(intro B;(try simp only[Bool.and_eq_true,Bool.not_eq_true']at B);(first|subst B|(obtain⟨g,j⟩:=B;subst g;subst j)|(obtain⟨⟨g,j⟩,R⟩:=B;subst g;subst j;subst R));(try simp only[zAq,zA7,Bool.not_true,Bool.not_false,Bool.true_and,Bool.false_and,Bool.and_self]);go_simp;with_reducible rfl);(simp only[nr]))|((with_reducible apply zCL);rfl;rfl;rfl;all_goals(intro n;subst n;(try simp only[zAq,zA7,Bool.not_true,Bool.not_false,Bool.true_and,Bool.false_and,Bool.and_self])))|((with_reducible apply zBn);rfl;rfl;rfl;all_goals(intro n;(first|subst n|((try simp only[Bool.and_eq_true,Bool.not_eq_true']at n);obtain⟨g,j⟩:=n;subst g;subst j));(try simp only[zAq,zA7,Bool.not_true,Bool.not_false,Bool.true_and,Bool.false_and,Bool.and_self]))))|((with_reducible apply zCM);rfl;rfl;first|((with_reducible apply zCJ);rfl;rfl;rfl;rfl;(simp only[nr]))|((with_reducible apply zCK);rfl;rfl;rfl;rfl;(simp only[nr]))|((with_reducible apply zB5);rfl;rfl;rfl;rfl;rfl;(simp only[nr]))|((with_reducible apply zBm);rfl;rfl;rfl;rfl;rfl;(simp only[nr])))|go_values|go_guarded|go_step|go_upon|go_back|dsimp only)
   go_ret;refine⟨zAb (b:=zN ds) ?_,a⟩;rw[G.out,Bool.eq_iff_iff];simp only[decide_eq_true_eq];omega
end Go.Proofs.YthpocbeoanipbaaGreatDoor
