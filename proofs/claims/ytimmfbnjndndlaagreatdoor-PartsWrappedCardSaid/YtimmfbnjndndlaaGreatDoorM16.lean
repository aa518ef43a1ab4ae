/- Texts W2. -/
import Derived.Maps.Own
import Derived.Test.YtimmfbnjndndlaaGreatDoorM12
set_option linter.all false
namespace Go.Proofs.YtimmfbnjndndlaaGreatDoor
open Go.RowKit
set_option maxHeartbeats 8000000
set_option maxRecDepth 100000
theorem Tryz.zero4(w:World):(zeroValue 4).run Tryz.prog w= .ok (.bool false) w:=by kernel_rfl
def SeenNames(kv:List (ByteArray × Value))(l:List ByteArray):Prop:=∀x,(x∈l->kvGet kv x=some (.bool true))∧(x∉l->kvGet kv x=none)
theorem SeenNames.add{kv:List (ByteArray × Value)}{l:List ByteArray}(h:SeenNames kv l)(x:ByteArray):SeenNames (kvSet kv x (.bool true)) (l++[x]):=λy=>by
 by_cases e:y=x
 ·subst e;exact⟨λ_=>kvGet_set_same _ _ _,λhn=>absurd (by simp) hn⟩
 ·exact⟨λhy=>by rw[kvGet_set_other e];exact(h y).1 (by simpa[e]using hy),λhy=>by rw[kvGet_set_other e];exact(h y).2 (by simp at hy;exact hy.1)⟩
theorem SeenNames.look{kv:List (ByteArray × Value)}{l:List ByteArray}(h:SeenNames kv l)(x:ByteArray):∃b:Bool,(kvGet kv x).getD (.bool false)= .bool b∧(b=true↔x∈l):=by
 by_cases hx:x∈l
 ·exact⟨true,by rw[(h x).1 hx];rfl,by simp[hx]⟩
 ·exact⟨false,by rw[(h x).2 hx];rfl,by simp[hx]⟩
theorem factValid_any(Z:Zone)(v:Value)(ds:List FactD)(w:World)(hd:Facts Z w v ds):
  Calls Tryz.prog 51 #[.agg #[v]] w λe w'=>e= .returned (.bool (validDom ds))∧Below w.heap.size w w':=by
 obtain⟨⟨A,cap,rfl,hcap,_,hbytes,hs⟩,hfit⟩:=hd;have hmm:= @run_makeMap Tryz.prog;go_enter Tryz.func51,Tryz.ntmps51
 go_wp2;go_loopw[12] (λi wr=>∃(k:Nat)(kv:List (ByteArray × Value)),k≤ds.length∧i= .int .i64 k∧MapIs encS wr (w.heap.size+1) kv∧wr.cell? ⟨w.heap.size,0,none⟩=some (.slice A ds.length cap)∧Below w.heap.size w wr∧Hid (domTo ds k)∧Hid (SeenNames kv (names (ds.take k)))) (λi _=>ds.length-(intOf i).toNat)
 case atStart=>
  refine⟨0,[],Nat.zero_le _,rfl,?_,by simp,((Below.refl _ _).alloc (Nat.le_refl _) _).alloc (by simp) _,domTo_zero _,λx=>⟨λh=>by simp[names]at h,λ_=>rfl⟩⟩;simpa using MapIs.made (w.alloc (.cells #[.slice A ds.length cap] 24)) encS
 case round=>
  obtain⟨k,kv,hk,rfl,hmap,hcell,hbel,hdom,hseen⟩:=hrel;by_cases hlt:k<ds.length
  ·obtain⟨b,off,cs,rfl,hz,hc,rfl⟩:=hs.at_ hlt;have hfk:=hfit ds[k] (List.getElem_mem hlt);have HBAD:=hid (validDom_bad hlt);have HNEXT:=hid (domTo_succ hlt hdom.out);have htk:=hid (take_succ_get hlt);have hbs:b<w.heap.size:=lt_of_cell (fact_cells hc).1;obtain⟨c0,c1,c2,c3⟩:=fact_cells (cells_below hbel hbs hc);clear hc hs;have HF:Hid (∃f,f=ds[k]):=⟨_,rfl⟩;generalize ds[k]=f at*;obtain⟨nm,kd,lo,hi⟩:=f;obtain⟨hnm,hkd,hlo,hhi⟩:=hfk;simp only at c0 c1 c2 c3 hnm hkd hlo hhi;obtain⟨sb,hsb,hsb2⟩:=hseen.out.look nm;have HSB:=hid hsb2;clear hsb2
   have hlook:∀o,(Instr.lookup 89 (.map (some (w.heap.size+1))) (.string nm) false).run Tryz.prog (wr.alloc o)= .ok (.bool sb) (wr.alloc o):=λo=>by
    have:=MapIs.look (w:=wr.alloc o) (hmap.of_block (Below.heap_alloc _ _ _ hmap.lt)) (keyOk_string (P:=Tryz.prog) (k:=9) Tryz.underlying9) (t:=89) (e:=4) Tryz.underlying89 (Tryz.zero4 _) nm false;simpa[encS,hsb]using this
   clear hsb;(have hmap1:=λo=>hmap.of_block (w':=wr.alloc o) (Below.heap_alloc _ _ _ hmap.lt));clear hmap
   repeat' (first|(go_big_may;first
    |(go_at_call 87;refine(isName_any _ hnm _).mono ?_;rintro e w' ⟨rfl,rfl⟩;dsimp only)
    |(at_mapUpdate;refine wpList_mapStore rfl (.tmp 67) (.tmp 69) _ rfl (keyOk_string (P:=Tryz.prog) (k:=9) Tryz.underlying9) (e:=4) Tryz.underlying89 rfl (hmap1 _) nm rfl ?_;intro w1 hm1 hk1 hsz1 hce1 hfr1))|((with_reducible apply wpList_isG);rfl;first|((with_reducible apply wpList_gen);rfl;rfl;rfl;exact NotVar.app;intro bb hbb;(simp only[nr]))|((with_reducible apply wpList_gen2);rfl;rfl;rfl;exact NotVar.app;intro bb hbb;(simp only[nr]))|((with_reducible apply wpList_gconst);rfl;rfl;rfl;simp only[])|((with_reducible apply wpList_gskip);rfl;rfl;(first|exact Or.inl rfl|exact Or.inr rfl);(simp only[nr]))|((with_reducible apply wpList_ggmove);rfl;rfl;rfl;rfl;exact(by constructor);rfl;(simp only[nr]))|((with_reducible apply wpList_gmove);rfl;rfl;rfl;rfl;exact(by constructor);rfl;(simp only[nr]))|((with_reducible apply wpList_isGPick);rfl;first|((with_reducible apply wpList_gpick_and);rfl;rfl;rfl;exact(by constructor);rfl;rfl;rfl;rfl;(simp only[nr]))|((with_reducible apply wpList_gpick_or);rfl;rfl;rfl;exact(by constructor);rfl;rfl;rfl;rfl;(simp only[nr])))|((with_reducible apply wpList_guarded);rfl;rfl;rfl;exact(by constructor);(intro hG;(try simp only[Bool.and_eq_true,Bool.not_eq_true']at hG);(first|subst hG|(obtain⟨h1,h2⟩:=hG;subst h1;subst h2)|(obtain⟨⟨h1,h2⟩,h3⟩:=hG;subst h1;subst h2;subst h3));(try simp only[gv_true,gv_false,Bool.not_true,Bool.not_false,Bool.true_and,Bool.false_and,Bool.and_self]);go_simp;with_reducible rfl);(simp only[nr]))|((with_reducible apply wpList_gsplit);rfl;rfl;rfl;all_goals(intro hb;subst hb;(try simp only[gv_true,gv_false,Bool.not_true,Bool.not_false,Bool.true_and,Bool.false_and,Bool.and_self])))|((with_reducible apply wpList_gsplit2);rfl;rfl;rfl;all_goals(intro hb;(first|subst hb|((try simp only[Bool.and_eq_true,Bool.not_eq_true']at hb);obtain⟨h1,h2⟩:=hb;subst h1;subst h2));(try simp only[gv_true,gv_false,Bool.not_true,Bool.not_false,Bool.true_and,Bool.false_and,Bool.and_self]))))|((with_reducible apply wpList_isPick);rfl;rfl;first|((with_reducible apply wpList_pick_t);rfl;rfl;rfl;rfl;(simp only[nr]))|((with_reducible apply wpList_pick_f);rfl;rfl;rfl;rfl;(simp only[nr]))|((with_reducible apply wpList_pick_and);rfl;rfl;rfl;rfl;rfl;(simp only[nr]))|((with_reducible apply wpList_pick_or);rfl;rfl;rfl;rfl;rfl;(simp only[nr])))|go_values|go_guarded|go_step|go_upon|go_back|dsimp only)
   ·go_ret;refine⟨ret_bool (b:=validDom ds) ?_,hbel.alloc hbel.size _⟩;rw[HBAD.out (Or.inl (fact_bad ?_))];simp only[Hid]at*
    subst_vars
    exact hbb.trans (by simp only[Bool.not_and])
   ·(have hor:bb=true∨sb=true:=by assumption);go_ret;refine⟨ret_bool (b:=validDom ds) ?_,hbel.alloc hbel.size _⟩;rw[HBAD.out ?_];simp only[Hid]at*
    subst_vars
    rcases hor with hor|hor
    ·exact .inl (fact_name_bad (by simpa using hor))
    ·exact .inr (HSB.1 hor)
   ·(have hand:bb=false∧sb=false:=by assumption);go_roundw
    case rel=>
     refine⟨k+1,_,by omega,by go_num,hm1,?_,below_keeps_ne (hbel.alloc hbel.size _) hk1 (by omega) (by simp;have:=hbel.size;omega),?_,?_⟩
     ·rw[hce1,World.cell?_alloc_past _ _ _ (lt_of_cell hcell)];exact hcell
     ·simp only[Hid]at*
      subst_vars
      refine HNEXT (fact_good ?_ (by simpa using hand.1)) (λh=>by rw[HSB.2 h]at hand;simp at hand);exact hbb.trans (by simp only[Bool.not_and])
     ·rw[htk.out];simp only[Hid,names,List.map_append,List.map_cons,List.map_nil]at*;exact hseen.add _
    case measure=>simp[intOf];omega
  ·(obtain rfl:k=ds.length:=by omega);have HALL:=hid (validDom_all hdom.out);clear hdom hseen
   repeat' (first|(go_big_may;fail)|((with_reducible apply wpList_isG);rfl;first|((with_reducible apply wpList_gen);rfl;rfl;rfl;exact NotVar.app;intro bb hbb;(simp only[nr]))|((with_reducible apply wpList_gen2);rfl;rfl;rfl;exact NotVar.app;intro bb hbb;(simp only[nr]))|((with_reducible apply wpList_gconst);rfl;rfl;rfl;simp only[])|((with_reducible apply wpList_gskip);rfl;rfl;(first|exact Or.inl rfl|exact Or.inr rfl);(simp only[nr]))|((with_reducible apply wpList_ggmove);rfl;rfl;rfl;rfl;exact(by constructor);rfl;(simp only[nr]))|((with_reducible apply wpList_gmove);rfl;rfl;rfl;rfl;exact(by constructor);rfl;(simp only[nr]))|((with_reducible apply wpList_isGPick);rfl;first|((with_reducible apply wpList_gpick_and);rfl;rfl;rfl;exact(by constructor);rfl;rfl;rfl;rfl;(simp only[nr]))|((with_reducible apply wpList_gpick_or);rfl;rfl;rfl;exact(by constructor);rfl;rfl;rfl;rfl;(simp only[nr])))|((with_reducible apply wpList_guarded);rfl;rfl;rfl;exact(by constructor);(intro hG;(try simp only[Bool.and_eq_true,Bool.not_eq_true']at hG);(first|subst hG|(obtain⟨h1,h2⟩:=hG;subst h1;subst h2)|(obtain⟨⟨h1,h2⟩,h3⟩:=hG;subst h1;subst h2;subst h3));(try simp only[gv_true,gv_false,Bool.not_true,Bool.not_false,Bool.true_and,Bool.false_and,Bool.and_self]);go_simp;with_reducible rfl);(simp only[nr]))|((with_reducible apply wpList_gsplit);rfl;rfl;rfl;all_goals(intro hb;subst hb;(try simp only[gv_true,gv_false,Bool.not_true,Bool.not_false,Bool.true_and,Bool.false_and,Bool.and_self])))|((with_reducible apply wpList_gsplit2);rfl;rfl;rfl;all_goals(intro hb;(first|subst hb|((try simp only[Bool.and_eq_true,Bool.not_eq_true']at hb);obtain⟨h1,h2⟩:=hb;subst h1;subst h2));(try simp only[gv_true,gv_false,Bool.not_true,Bool.not_false,Bool.true_and,Bool.false_and,Bool.and_self]))))|((with_reducible apply wpList_isPick);rfl;rfl;first|((with_reducible apply wpList_pick_t);rfl;rfl;rfl;rfl;(simp only[nr]))|((with_reducible apply wpList_pick_f);rfl;rfl;rfl;rfl;(simp only[nr]))|((with_reducible apply wpList_pick_and);rfl;rfl;rfl;rfl;rfl;(simp only[nr]))|((with_reducible apply wpList_pick_or);rfl;rfl;rfl;rfl;rfl;(simp only[nr])))|go_values|go_guarded|go_step|go_upon|go_back|dsimp only)
   go_ret;refine⟨ret_bool (b:=validDom ds) ?_,hbel⟩;rw[HALL.out,Bool.eq_iff_iff];simp only[decide_eq_true_eq];omega
end Go.Proofs.YtimmfbnjndndlaaGreatDoor
