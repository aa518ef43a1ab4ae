/- Texts W50 W51 W52 W53 W54 W55 W56 RM. -/
import Derived.Test.YtimmfbnjndndlaaGreatDoorM47
import Derived.Laws.BitsLemmas
import Derived.Test.YtimmfbnjndndlaaGreatDoorM45
set_option linter.all false
namespace Go.Proofs.YtimmfbnjndndlaaGreatDoor
open Go.RowKit
set_option maxHeartbeats 8000000
set_option maxRecDepth 100000
def lessS:List Int->List Int->Bool
 |a::x,b::y=>if a=b then lessS x y else decide (a<b)
 | _,_=>false
theorem lessS_lex:∀{a b:List Int},lessS a b=true->lexLt a b
 |[],_,h=>by simp[lessS]at h
 | _::_,[],h=>by simp[lessS]at h
 |a::x,b::y,h=>by
  unfold lessS at h;by_cases e:a=b
  ·rw[if_pos e]at h;obtain⟨j,h1,h2,h3,h4⟩:=lessS_lex h;refine⟨j+1,by simpa using h1,by simpa using h2,λi hi=> ?_,by simpa using h4⟩
   cases i with
   |zero=>simpa using e
   |succ i=>simpa using h3 i (by omega)
  ·rw[if_neg e]at h;exact⟨0,by simp,by simp,λi hi=>absurd hi (by omega),by simpa using h⟩
theorem lessS_nil_left(b:List Int):lessS [] b=false:=by unfold lessS;rfl
theorem lessS_nil_right(a:List Int):lessS a []=false:=by cases a<;>rfl
def fewS(g:List NodeD)(n:Int):Bool:=decide ((g.length:Int)≤n)&&g.all λx=>decide ((x.kids.length:Int)≤n)&&decide ((x.cuts.length:Int)≤n)
mutual
def sizeC:Fm->Int->Int
 | .mk _ _ _ _ kids,n=>sizesC kids 1 n
def sizesC:List Fm->Int->Int->Int
 |[],out,_=>out
 |k::r,out,n=>if out≤n then sizesC r (out+sizeC k (n-out)) n else out
end
mutual
theorem sizeC_le:∀(f:Fm)(n:Int),1≤sizeC f n∧(sizeC f n≤n+1∨sizeC f n=1)
 | .mk _ _ _ _ kids,n=>by
  rw[sizeC];obtain⟨h1,h2⟩:=sizesC_le kids 1 n;exact⟨h1,by omega⟩
theorem sizesC_le:∀(l:List Fm)(out n:Int),out≤sizesC l out n∧(sizesC l out n≤n+1∨sizesC l out n=out)
 |[],out,n=>by rw[sizesC];omega
 |k::r,out,n=>by
  rw[sizesC];split
  ·rename_i h;obtain⟨h1,h2⟩:=sizeC_le k (n-out);obtain⟨h3,h4⟩:=sizesC_le r (out+sizeC k (n-out)) n;omega
  ·omega
end
mutual
theorem sizeC_iff:∀(f:Fm)(n:Int),sizeC f n≤n↔(fsize f:Int)≤n
 | .mk _ _ _ _ kids,n=>by
  rw[sizeC,fsize];have:=sizesC_iff kids 1 n;rw[this]
  push_cast
  omega
theorem sizesC_iff:∀(l:List Fm)(out n:Int),sizesC l out n≤n↔out+(fsizes l:Int)≤n
 |[],out,n=>by rw[sizesC,fsizes];simp
 |k::r,out,n=>by
  rw[sizesC,fsizes];have hk:=fsize_pos k;split
  ·rename_i h;have h1:=sizeC_iff k (n-out);have h2:=sizesC_iff r (out+sizeC k (n-out)) n;have h3:=sizeC_val k (n-out);rw[h2]
   push_cast
   constructor
   ·intro h4;have:=h3 (by omega);omega
   ·intro h4;have:=h3 (h1.2 (by omega));omega
  ·push_cast;omega
theorem sizeC_val:∀(f:Fm)(n:Int),sizeC f n≤n->sizeC f n=fsize f
 | .mk _ _ _ _ kids,n,h=>by
  rw[sizeC]at h⊢;rw[fsize];have:=sizesC_val kids 1 n h;rw[this];push_cast;omega
theorem sizesC_val:∀(l:List Fm)(out n:Int),sizesC l out n≤n->sizesC l out n=out+fsizes l
 |[],out,n,_=>by rw[sizesC,fsizes];simp
 |k::r,out,n,h=>by
  rw[sizesC]at h⊢;rw[fsizes];split at h
  ·rename_i ho;rw[if_pos ho];have h1:=sizesC_val r (out+sizeC k (n-out)) n h;have h2:=(sizesC_le r (out+sizeC k (n-out)) n).1;have h3:=sizeC_val k (n-out) (by omega);rw[h1,h3];push_cast;omega
  ·rename_i ho;omega
end
theorem Tryz.egSize:∀args w,(callFunc 80 args).run Tryz.prog w= .ok (.enter 80 args) w:=enters_of Tryz.func80 (by kernel_rfl) rfl
theorem refSize_any:∀(m:Nat)(f:Fm),fsize f≤m->∀(Z:Zone)(cs:List Value)(n:Int)(w:World),FmR Z w f cs->0≤n->n≤1000000->
  Calls Tryz.prog 80 #[.agg cs.toArray,.int .i64 n] w λe w'=>e= .returned (.int .i64 (sizeC f n))∧Below w.heap.size w w':=by
 intro m
 induction m with
 |zero=>intro f hm;have:=fsize_pos f;omega
 |succ m ih=>
 intro f hm Z cs n w hf hn0 hn1;have eg:=Tryz.egSize;have IH:=hid ih;clear ih;obtain⟨op,nm,cm,nu,kids⟩:=f;unfold FmR at hf;obtain⟨-,-,-,-,A,cap,rfl,hcap,-,hkb,hks⟩:=hf;have HS:=hid (FmsR.seq hks);have hkl:kids.length≤2513169434916:=by omega
 have HU:=hid (show sizeC (.mk op nm cm nu kids) n=sizesC kids 1 n from by rw[sizeC]);have hbx:=Blk.new w 47 #[.int .i64 op,.string nm,.int .i64 cm,.int .i64 nu,.slice A kids.length cap];have HW0:=hid (And.intro (below1 w (.cells #[.int .i64 op,.string nm,.int .i64 cm,.int .i64 nu,.slice A kids.length cap] 47)) hbx);have HM:=hid hm;clear hks hm hbx;go_enter Tryz.func80,Tryz.ntmps80
 go_wp2;go_loopw[5,6] (λo i wr=>∃(k:Nat)(out:Int),k≤kids.length∧i= .int .i64 k∧o= .int .i64 out∧1≤out∧(out≤n+1∨out=1)∧Blk wr w.heap.size 47 #[.int .i64 op,.string nm,.int .i64 cm,.int .i64 nu,.slice A kids.length cap]∧Below w.heap.size w wr∧Hid (sizesC kids 1 n=sizesC (kids.drop k) out n)) (λ_ i _=>kids.length-(intOf i).toNat);case atStart=>exact⟨0,1,Nat.zero_le _,rfl,rfl,by omega,Or.inr rfl,HW0.out.2,HW0.out.1,rfl⟩
 case round=>
  obtain⟨k,out,hk,rfl,rfl,ho1,ho2,hbx,hbel,hres⟩:=hrel;have b4:=hbx.at4;have b4l:=hbx.lt;have HB:=hid (And.intro hbx hbel);by_cases hlt:k<kids.length
  ·have hdr:kids.drop k=kids[k]::kids.drop (k+1):=List.drop_eq_getElem_cons hlt;have hres':=hres.out;rw[hdr,sizesC]at hres';by_cases hon:out≤n
   ·rw[if_pos hon]at hres';obtain⟨b',off,cs,rfl,hz,hcs,hfk⟩:=HS.out.at_ hlt;have hkz:Keeps Z w wr:= .of_below hbel;have hfk':=FmR.keep hkz _ _ hfk;obtain⟨A',cap',rfl⟩:=FmR.form hfk;have hle:=fsize_lt hlt;obtain⟨c0,c1,c2,c3,c4⟩:=five_cells (λj u hu=>hkz.cell (p:=⟨b',off+k*5+j,none⟩) hz (hcs j u hu));have cl:=lt_of_cell c0;have hfs:=fsize_eq (.mk op nm cm nu kids);simp only[Fm.kids]at hfs;have HC:=hid (IH.out kids[k] (by have:=HM.out;omega) Z _ (n-out) wr hfk' (by omega) (by omega));have hsz:=sizeC_le kids[k] (n-out);have HR:=hid hres';(have e1:decide (out≤n)=true:=by simpa using hon);clear hres hres' hdr hcs hfk hfk' hkz hle hbx hbel hfs;generalize sizeC kids[k] (n-out)=q at*;generalize kids[k]=g at*;(go_wp2_with fail);refine HC.out.mono ?_;rintro e w1 ⟨rfl,hb1⟩;have hx:=HB.out.1.below hb1 HB.out.1.lt;have hbw:=HB.out.2.trans (hb1.mono HB.out.2.size);clear hb1;go_wp2;go_roundw;(case rel=>exact⟨k+1,out+q,by omega,by go_num,rfl,by omega,by omega,hx,hbw,HR⟩);case measure=>simp[intOf];omega
   ·rw[if_neg hon]at hres';(have e1:decide (out≤n)=false:=by simpa using hon);have HR:=hid hres';clear hres hres' hdr hbx hbel;go_wp2;go_ret;rw[HU.out,HR.out];exact⟨rfl,HB.out.2⟩
  ·(obtain rfl:k=kids.length:=by omega);have hres':=hres.out;rw[List.drop_length,sizesC]at hres';have HR:=hid hres';clear hres hres' hbx hbel;go_wp2;go_ret;rw[HU.out,HR.out];exact⟨rfl,HB.out.2⟩
theorem refSmall_any(Z:Zone)(f:Fm)(cs:List Value)(n:Int)(w:World)(hf:FmR Z w f cs)(h0:0≤n)(h1:n≤1000000):
  Calls Tryz.prog 45 #[.agg cs.toArray,.int .i64 n] w λe w'=>e= .returned (.bool (decide ((fsize f:Int)≤n)))∧Below w.heap.size w w':=by
 have HC:=hid (λo=>refSize_any (fsize f) f (Nat.le_refl _) Z cs n (w.alloc o) (FmR.keep ((Keeps.refl _ _).alloc o) _ _ hf) h0 h1)
 have HI:=hid (show decide ((fsize f:Int)≤n)=decide (sizeC f n≤n) from by
  by_cases h:(fsize f:Int)≤n
  ·rw[decide_eq_true h,decide_eq_true ((sizeC_iff f n).2 h)]
  ·rw[decide_eq_false h,decide_eq_false (λe=>h ((sizeC_iff f n).1 e))])
 obtain⟨A,cap,rfl⟩:=FmR.form hf;clear hf;go_enter Tryz.func45,Tryz.ntmps45
 go_wp2_with fail
 refine(HC.out _).mono ?_;rintro e w1 ⟨rfl,hb1⟩;have hbw:=HBEL_trans (below1 w _) hb1;go_wp2;go_ret;rw[HI.out];exact⟨rfl,hbw⟩
def putS(l:List Int)(n lo hi:Int):List Int:=if n<lo∨hi<n then l else insA l n
def skipL:List Int->Int->Nat
 |[],_=>0
 |a::r,n=>if a<n then skipL r n+1 else 0
theorem skipL_le(n:Int):∀l:List Int,skipL l n≤l.length
 |[]=>Nat.le_refl _
 |a::r=>by unfold skipL;split;have:=skipL_le n r;simp;omega;simp
theorem skipL_eq(n:Int):∀(l:List Int)(k:Nat),k≤l.length->(∀j,j<k->l.getD j 0<n)->(k<l.length->¬l.getD k 0<n)->skipL l n=k
 |[],k,hk,_,_=>by simp at hk;subst hk;rfl
 |a::r,0,_,_,h=>by unfold skipL;rw[if_neg (by have:=h (by simp);simpa using this)]
 |a::r,k+1,hk,h1,h2=>by
  unfold skipL;rw[if_pos (by have:=h1 0 (by omega);simpa using this),skipL_eq n r k (by simpa using hk) (λj hj=>by have:=h1 (j+1) (by omega);simpa using this) (λhlt=>by have:=h2 (by simpa using hlt);simpa using this)]
theorem insA_skip(n:Int):∀l:List Int,insA l n=if skipL l n<l.length∧l.getD (skipL l n) 0=n then l else l.take (skipL l n)++n::l.drop (skipL l n)
 |[]=>by simp[insA,skipL]
 |a::r=>by
  have ih:=insA_skip n r;unfold insA skipL;by_cases h:a<n
  ·rw[if_neg (by omega),if_neg (by omega),if_pos h,ih];by_cases h2:skipL r n<r.length∧r.getD (skipL r n) 0=n
   ·rw[if_pos h2,if_pos (by simpa using h2)]
   ·rw[if_neg h2,if_neg (by simpa using h2)];simp
  ·rw[if_neg h];by_cases h2:n<a
   ·rw[if_pos h2,if_neg (by simp;omega)];simp
   ·rw[if_neg h2,if_pos (by omega),if_pos (by simp;omega)]
theorem own_empty{w:World}(t:TypeId):(w.alloc (.cells #[] t)).ownsRow w.heap.size t 1 (.slice (some ⟨w.heap.size,0,none⟩) 0 0) 0 []:=by
 have:=own_of_blk (W:=w.alloc (.cells #[] t)) (base:=w.heap.size) (Blk.new w t #[]) (Nat.le_refl _) (by simp);simpa using this
theorem refPut_any(Z:Zone)(v:Value)(l:List Int)(n lo hi:Int)(w:World)(h:Ints Z w v l)(hne:l≠[])(hl:l.length≤1000000)(hn:I64 n):
  Calls Tryz.prog 171 #[v,.int .i64 n,.int .i64 lo,.int .i64 hi] w λe w'=>∃v',e= .returned v'∧Ints (λb=>Z b∨w.heap.size≤b) w' v' (putS l n lo hi)∧Below w.heap.size w w':=by
 obtain⟨b,off,cap,rfl,hz,hb,hcap,hc⟩:=h.open_ hne;have HI:=hid h;have hc63:cap≤9223372036854775807:=by obtain⟨⟨_,_,e,_,h2,_⟩,_⟩:=h;injection e with _ _ e;omega
 have HC:=hid hc;have HSAME:=hid (λ(W:World)(hW:Below w.heap.size w W)=>(h.keep (.of_below hW)).mono (λb hb=>Or.inl hb:∀b,Z b->Z b∨w.heap.size≤b));have HU:=hid (show putS l n lo hi=if n<lo∨hi<n then l else insA l n from rfl);clear h hc;go_enter Tryz.func171,Tryz.ntmps171
 by_cases h1:n<lo
 ·have e1:decide (n<lo)=true:=by simpa using h1
  have HR:=hid (HU.out.trans (if_pos (Or.inl h1)));clear h1 HU;go_wp2;go_ret;rw[HR.out];exact⟨_,rfl,HSAME.out _ (Below.refl _ _),Below.refl _ _⟩
 have e1:decide (n<lo)=false:=by simpa using h1
 by_cases h2:hi<n
 ·have e2:decide (hi<n)=true:=by simpa using h2
  have HR:=hid (HU.out.trans (if_pos (Or.inr h2)));clear h1 h2 HU;go_wp2;go_ret;rw[HR.out];exact⟨_,rfl,HSAME.out _ (Below.refl _ _),Below.refl _ _⟩
 have e2:decide (hi<n)=false:=by simpa using h2
 have HU2:=hid (HU.out.trans (if_neg (show ¬(n<lo∨hi<n) by omega)));rw[insA_skip]at HU2;clear h1 h2 HU;go_wp2;go_loopw[9] (λi wr=>∃k:Nat,k≤l.length∧i= .int .i64 k∧w=wr∧Hid (∀j,j<k->l.getD j 0<n)) (λi _=>l.length-(intOf i).toNat);case atStart=>exact⟨0,Nat.zero_le _,rfl,rfl,λj hj=>absurd hj (Nat.not_lt_zero _)⟩
 case round=>
  obtain⟨k,hk,rfl,rfl,hlow⟩:=hrel;by_cases hlt:k<l.length
  ·have hck:=HC.out k hlt;(have hk1:((k:Nat):Int)<(l.length:Int):=by omega);(have hk0:(0:Int)≤((k:Nat):Int):=by omega);have HSK:=hid (show ¬l.getD k 0<n->skipL l n=k from λh=>skipL_eq n l k hk hlow.out (λ_=>h))
   have HNX:=hid (show l.getD k 0<n->∀j,j<k+1->l.getD j 0<n from λh j hj=>by
    by_cases e:j=k
    ·subst e;exact h
    ·exact hlow.out j (by omega))
   have HGD:=hid (show ∃x,l.getD k 0=x from⟨_,rfl⟩);generalize hx:l.getD k 0=x at*;have HX:=hid hx;clear hx hlow HGD;by_cases hxn:x<n
   ·(have e3:decide (x<n)=true:=by simpa using hxn);have HR:=hid (HNX.out hxn);clear hxn HNX HSK;go_wp2;go_roundw;(case rel=>exact⟨k+1,by omega,by go_num,trivial,HR⟩);case measure=>simp[intOf];omega
   ·(have e3:decide (x<n)=false:=by simpa using hxn);have hsk:=HSK.out hxn;rw[hsk]at HU2;by_cases hxe:x=n
    ·(have e4:(x==n)=true:=by simp[hxe]);have HR:=hid (HU2.out.trans (if_pos ⟨hlt,HX.out.trans hxe⟩));clear hxn hxe HNX HSK hsk;go_wp2;go_ret;rw[HR.out];exact⟨_,rfl,HSAME.out _ (Below.refl _ _),Below.refl _ _⟩
    ·(have e4:(x==n)=false:=by simp[hxe]);have HR:=hid (HU2.out.trans (if_neg (λh=>hxe (HX.out.symm.trans h.2))));clear hxn hxe HNX HSK hsk;(have hkk:k≤l.length:=by omega);(have hkc:((k:Nat):Int)≤(cap:Int):=by omega);have HCB:=hid (λ(W:World)(hW:Below w.heap.size w W)(j:Nat)(hj:j<l.length)=>(hW.cell (p:=⟨b,off+j,none⟩) hb).trans (HC.out j hj))
     have HN1:=hid (λ(W:World)(hW:Below w.heap.size w W)=>(show ∀j u,((l.take k).map (Value.int .i64))[j]? =some u->W.cell? ⟨b,off+j,none⟩=some u from λj u hu=>by
      rw[List.getElem?_map,List.getElem?_take]at hu;split at hu
      ·rename_i hj;rw[List.getElem?_eq_getElem (by omega)]at hu;simp only[Option.map_some,Option.some.injEq]at hu;rw[<-hu,HCB.out W hW j (by omega)];simp[List.getD_eq_getElem?_getD,show j<l.length by omega]
      ·simp at hu))
     have HN2:=hid (λ(W:World)(hW:Below w.heap.size w W)=>(show ∀j u,((l.drop k).map (Value.int .i64))[j]? =some u->W.cell? ⟨b,off+k+j,none⟩=some u from λj u hu=>by
      rw[List.getElem?_map,List.getElem?_drop]at hu;by_cases hj:k+j<l.length
      ·rw[List.getElem?_eq_getElem hj]at hu;simp only[Option.map_some,Option.some.injEq]at hu;rw[<-hu,Nat.add_assoc,HCB.out W hW (k+j) hj];simp[List.getD_eq_getElem?_getD,hj]
      ·rw[List.getElem?_eq_none (by omega)]at hu;simp at hu))
     have HB0:=hid (below1 w (.cells #[] 3));have HO0:=hid (own_empty (w:=w) 3);(go_upto_region 9 with(first|(at_builtin;refine wpList_append1 rfl (.tmp 47) (.tmp 50) _ rfl Tryz.underlying38 Tryz.eInt rfl HO0.out rfl (news:=(l.take k).map (Value.int .i64)) (by rw[List.length_map,List.length_take];omega) (HN1.out _ HB0.out) (λu hu=>by obtain⟨x,-,rfl⟩:=List.mem_map.1 hu;rfl) (by unfold maxLen;omega) (by omega) (by simp) ?_;intro v5 w5 hown5 hg5 hat5;have hbw5:=below_own HB0.out HO0.out hg5 (by simp) (Nat.le_refl _);rw[Nat.zero_add,List.nil_append]at hown5;obtain⟨A5,cap5,hv5,-,-,-⟩:=Row.of_own hown5 (by decide);subst hv5)));have HB5:=hid hbw5;have hown5':w5.ownsRow w.heap.size 3 1 (.slice A5 k cap5) k ((l.take k).map (Value.int .i64)):=hown5;have HO5:=hid hown5';clear hown5 hown5' hg5 hat5 hbw5;(go_upto_region 10 with(first|(at_builtin;refine wpList_append1 rfl (.tmp 52) (.tmp 54) _ rfl Tryz.underlying38 Tryz.eInt rfl (HO5.out.alloc _) rfl (news:=[.int .i64 n]) rfl (one_cell (by simp)) (by simp[Value.oneCell']) (by unfold maxLen;omega) (by omega) (by have:=HB5.out.size;simp;omega) ?_;intro v6 w6 hown6 hg6 hat6;have hbw6:=below_own (HB5.out.alloc HB5.out.size _) (HO5.out.alloc _) hg6 (by have:=HB5.out.size;simp;omega) (Nat.le_refl _);obtain⟨A6,cap6,hv6,-,-,-⟩:=Row.of_own hown6 (by decide);subst hv6)));have HB6:=hid hbw6;have HO6:=hid hown6;clear hown6 hg6 hat6 hbw6;go_wp2_with(first|(at_builtin;refine wpList_append1 rfl (.tmp 56) (.tmp 59) _ rfl Tryz.underlying38 Tryz.eInt rfl HO6.out rfl (news:=(l.drop k).map (Value.int .i64)) (by rw[List.length_map,List.length_drop];omega) (HN2.out _ HB6.out) (λu hu=>by obtain⟨x,-,rfl⟩:=List.mem_map.1 hu;rfl) (by unfold maxLen;omega) (by omega) (by have:=HB6.out.size;omega) ?_;intro v7 w7 hown7 hg7 hat7;have hbw7:=below_own HB6.out HO6.out hg7 (by have:=HB6.out.size;omega) (Nat.le_refl _);obtain⟨A7,cap7,hv7,-,-,-⟩:=Row.of_own hown7 (by decide);subst hv7));have HO7:=hid hown7;have HB7:=hid hbw7;clear hown7 hg7 hat7 hbw7;go_ret;rw[HR.out];have hlen:(l.take k++n::l.drop k).length =k+1+(l.length-k):=by simp;omega
     have hown:w7.ownsRow w.heap.size 3 1 (.slice A7 (k+1+(l.length-k)) cap7) (k+1+(l.length-k)) ((l.take k++n::l.drop k).map (Value.int .i64)):=by
      have h:=HO7.out;simpa using h
     refine⟨_,rfl,(Ints.of_own hown (λx hx=> ?_) (by rw[hlen];omega)).mono λb hb=>Or.inr hb,HB7.out⟩;rcases List.mem_append.1 hx with hx|hx
     ·exact HI.out.fit x (List.mem_of_mem_take hx)
     ·rcases List.mem_cons.1 hx with rfl|hx
      ·exact hn
      ·exact HI.out.fit x (List.mem_of_mem_drop hx)
  ·have hsk:=skipL_eq n l k hk hlow.out (λh=>absurd h hlt);rw[hsk]at HU2;have HR:=hid (HU2.out.trans (if_neg (λh=>hlt h.1)));(have e5:decide (k<l.length)=false:=by simpa using hlt);(have e5':decide ((k:Int)<(l.length:Int))=false:=by simp;omega);clear hlow hsk;(have hkk:k≤l.length:=by omega);(have hkc:((k:Nat):Int)≤(cap:Int):=by omega);have HCB:=hid (λ(W:World)(hW:Below w.heap.size w W)(j:Nat)(hj:j<l.length)=>(hW.cell (p:=⟨b,off+j,none⟩) hb).trans (HC.out j hj))
   have HN1:=hid (λ(W:World)(hW:Below w.heap.size w W)=>(show ∀j u,((l.take k).map (Value.int .i64))[j]? =some u->W.cell? ⟨b,off+j,none⟩=some u from λj u hu=>by
    rw[List.getElem?_map,List.getElem?_take]at hu;split at hu
    ·rename_i hj;rw[List.getElem?_eq_getElem (by omega)]at hu;simp only[Option.map_some,Option.some.injEq]at hu;rw[<-hu,HCB.out W hW j (by omega)];simp[List.getD_eq_getElem?_getD,show j<l.length by omega]
    ·simp at hu))
   have HN2:=hid (λ(W:World)(hW:Below w.heap.size w W)=>(show ∀j u,((l.drop k).map (Value.int .i64))[j]? =some u->W.cell? ⟨b,off+k+j,none⟩=some u from λj u hu=>by
    rw[List.getElem?_map,List.getElem?_drop]at hu;by_cases hj:k+j<l.length
    ·rw[List.getElem?_eq_getElem hj]at hu;simp only[Option.map_some,Option.some.injEq]at hu;rw[<-hu,Nat.add_assoc,HCB.out W hW (k+j) hj];simp[List.getD_eq_getElem?_getD,hj]
    ·rw[List.getElem?_eq_none (by omega)]at hu;simp at hu))
   have HB0:=hid (below1 w (.cells #[] 3));have HO0:=hid (own_empty (w:=w) 3);(go_upto_region 9 with(first|(at_builtin;refine wpList_append1 rfl (.tmp 47) (.tmp 50) _ rfl Tryz.underlying38 Tryz.eInt rfl HO0.out rfl (news:=(l.take k).map (Value.int .i64)) (by rw[List.length_map,List.length_take];omega) (HN1.out _ HB0.out) (λu hu=>by obtain⟨x,-,rfl⟩:=List.mem_map.1 hu;rfl) (by unfold maxLen;omega) (by omega) (by simp) ?_;intro v5 w5 hown5 hg5 hat5;have hbw5:=below_own HB0.out HO0.out hg5 (by simp) (Nat.le_refl _);rw[Nat.zero_add,List.nil_append]at hown5;obtain⟨A5,cap5,hv5,-,-,-⟩:=Row.of_own hown5 (by decide);subst hv5)));have HB5:=hid hbw5;have hown5':w5.ownsRow w.heap.size 3 1 (.slice A5 k cap5) k ((l.take k).map (Value.int .i64)):=hown5;have HO5:=hid hown5';clear hown5 hown5' hg5 hat5 hbw5;(go_upto_region 10 with(first|(at_builtin;refine wpList_append1 rfl (.tmp 52) (.tmp 54) _ rfl Tryz.underlying38 Tryz.eInt rfl (HO5.out.alloc _) rfl (news:=[.int .i64 n]) rfl (one_cell (by simp)) (by simp[Value.oneCell']) (by unfold maxLen;omega) (by omega) (by have:=HB5.out.size;simp;omega) ?_;intro v6 w6 hown6 hg6 hat6;have hbw6:=below_own (HB5.out.alloc HB5.out.size _) (HO5.out.alloc _) hg6 (by have:=HB5.out.size;simp;omega) (Nat.le_refl _);obtain⟨A6,cap6,hv6,-,-,-⟩:=Row.of_own hown6 (by decide);subst hv6)));have HB6:=hid hbw6;have HO6:=hid hown6;clear hown6 hg6 hat6 hbw6;by_cases hcapk:cap=k
   ·go_wp2_with(first|(at_builtin;refine wpList_append1 rfl (.tmp 56) (.tmp 59) _ rfl Tryz.underlying38 Tryz.eInt rfl HO6.out rfl (news:=[]) (by simp;omega) (λj u hu=>by simp at hu) (λu hu=>by simp at hu) (by unfold maxLen;omega) (by omega) (by have:=HB6.out.size;omega) ?_;intro v7 w7 hown7 hg7 hat7;have hbw7:=below_own HB6.out HO6.out hg7 (by have:=HB6.out.size;omega) (Nat.le_refl _);obtain⟨A7,cap7,hv7,-,-,-⟩:=Row.of_own hown7 (by decide);subst hv7));have HO7:=hid hown7;have HB7:=hid hbw7;clear hown7 hg7 hat7 hbw7;go_ret;rw[HR.out];have hlen:(l.take k++n::l.drop k).length =k+1+(l.length-k):=by simp;omega
    have hown:w7.ownsRow w.heap.size 3 1 (.slice A7 (k+1+(l.length-k)) cap7) (k+1+(l.length-k)) ((l.take k++n::l.drop k).map (Value.int .i64)):=by
     have h:=HO7.out;have hd:l.drop k=[]:=List.drop_eq_nil_of_le (by omega);rw[hd];simpa using h
    refine⟨_,rfl,(Ints.of_own hown (λx hx=> ?_) (by rw[hlen];omega)).mono λb hb=>Or.inr hb,HB7.out⟩;rcases List.mem_append.1 hx with hx|hx
    ·exact HI.out.fit x (List.mem_of_mem_take hx)
    ·rcases List.mem_cons.1 hx with rfl|hx
     ·exact hn
     ·exact HI.out.fit x (List.mem_of_mem_drop hx)
   ·go_wp2_with(first|(at_builtin;refine wpList_append1 rfl (.tmp 56) (.tmp 59) _ rfl Tryz.underlying38 Tryz.eInt rfl HO6.out rfl (news:=(l.drop k).map (Value.int .i64)) (by rw[List.length_map,List.length_drop];omega) (HN2.out _ HB6.out) (λu hu=>by obtain⟨x,-,rfl⟩:=List.mem_map.1 hu;rfl) (by unfold maxLen;omega) (by omega) (by have:=HB6.out.size;omega) ?_;intro v7 w7 hown7 hg7 hat7;have hbw7:=below_own HB6.out HO6.out hg7 (by have:=HB6.out.size;omega) (Nat.le_refl _);obtain⟨A7,cap7,hv7,-,-,-⟩:=Row.of_own hown7 (by decide);subst hv7));have HO7:=hid hown7;have HB7:=hid hbw7;clear hown7 hg7 hat7 hbw7;go_ret;rw[HR.out];have hlen:(l.take k++n::l.drop k).length =k+1+(l.length-k):=by simp;omega
    have hown:w7.ownsRow w.heap.size 3 1 (.slice A7 (k+1+(l.length-k)) cap7) (k+1+(l.length-k)) ((l.take k++n::l.drop k).map (Value.int .i64)):=by
     have h:=HO7.out;simpa using h
    refine⟨_,rfl,(Ints.of_own hown (λx hx=> ?_) (by rw[hlen];omega)).mono λb hb=>Or.inr hb,HB7.out⟩;rcases List.mem_append.1 hx with hx|hx
    ·exact HI.out.fit x (List.mem_of_mem_take hx)
    ·rcases List.mem_cons.1 hx with rfl|hx
     ·exact hn
     ·exact HI.out.fit x (List.mem_of_mem_drop hx)
theorem Tryz.egTests:∀args w,(callFunc 142 args).run Tryz.prog w= .ok (.enter 142 args) w:=enters_of Tryz.func142 (by kernel_rfl) rfl
def sucW(n:Int):Int:=if n=9223372036854775807 then-9223372036854775808 else n+1
theorem sucW_i64{n:Int}(h:I64 n):I64 (sucW n):=by
 unfold sucW;have h1:=h.1;have h2:=h.2;split
 ·constructor<;>omega
 ·constructor<;>omega
theorem wrap_max:wrap64 9223372036854775808= -9223372036854775808:=by decide+kernel
mutual
def testsS(nm:ByteArray)(lo hi:Int):Fm->List Int->List Int
 | .mk op n _ nu kids,l=>testssS nm lo hi kids (if op=3∧n=nm then putS (putS l nu lo hi) (sucW nu) lo hi else l)
def testssS(nm:ByteArray)(lo hi:Int):List Fm->List Int->List Int
 |[],l=>l
 |k::r,l=>testssS nm lo hi r (testsS nm lo hi k l)
end
theorem putS_len(l:List Int)(n lo hi:Int):(putS l n lo hi).length ≤l.length+1:=by
 have hi':∀(l:List Int)(n:Int),(insA l n).length ≤l.length+1:=by
  intro l n
  induction l with
  |nil=>simp[insA]
  |cons a r ih=>unfold insA;split<;>(try split)<;>simp<;>omega
 unfold putS;split
 ·omega
 ·exact hi' l n
theorem putS_ne{l:List Int}(n lo hi:Int)(h:l≠[]):putS l n lo hi≠[]:=by
 unfold putS;split
 ·exact h
 ·cases l with
  |nil=>exact absurd rfl h
  |cons a r=>unfold insA;split<;>(try split)<;>simp
mutual
theorem testsS_len(nm:ByteArray)(lo hi:Int):∀(f:Fm)(l:List Int),(testsS nm lo hi f l).length ≤l.length+2*fsize f∧(l≠[]->testsS nm lo hi f l≠[])
 | .mk op n cm nu kids,l=>by
  rw[testsS,fsize];have h1:=putS_len l nu lo hi;have h2:=putS_len (putS l nu lo hi) (sucW nu) lo hi;split
  ·obtain⟨h3,h4⟩:=testssS_len nm lo hi kids (putS (putS l nu lo hi) (sucW nu) lo hi);exact⟨by omega,λh=>h4 (putS_ne _ _ _ (putS_ne _ _ _ h))⟩
  ·obtain⟨h3,h4⟩:=testssS_len nm lo hi kids l;exact⟨by omega,h4⟩
theorem testssS_len(nm:ByteArray)(lo hi:Int):∀(r:List Fm)(l:List Int),(testssS nm lo hi r l).length ≤l.length+2*fsizes r∧(l≠[]->testssS nm lo hi r l≠[])
 |[],l=>by rw[testssS,fsizes];exact⟨by omega,λh=>h⟩
 |k::r,l=>by
  rw[testssS,fsizes];obtain⟨h1,h2⟩:=testsS_len nm lo hi k l;obtain⟨h3,h4⟩:=testssS_len nm lo hi r (testsS nm lo hi k l);exact⟨by omega,λh=>h4 (h2 h)⟩
end
theorem testssS_take(nm:ByteArray)(lo hi:Int):∀(l:List Fm)(k:Nat)(hk:k<l.length)(xs:List Int),testssS nm lo hi (l.take (k+1)) xs=testsS nm lo hi l[k] (testssS nm lo hi (l.take k) xs)
 |a::r,0,_,xs=>by simp[testssS]
 |a::r,k+1,hk,xs=>by
  have:=testssS_take nm lo hi r k (by simpa using hk) (testsS nm lo hi a xs);simp only[List.take_succ_cons,testssS,List.getElem_cons_succ];exact this
theorem refTests_any(nm:ByteArray)(lo hi:Int):∀(m:Nat)(f:Fm),fsize f≤m->∀(Z Zl:Zone)(cs:List Value)(vl:Value)(l:List Int)(w:World),FmR Z w f cs->Ints Zl w vl l->l≠[]->l.length+2*fsize f≤1000000->
  Calls Tryz.prog 142 #[.agg cs.toArray,.string nm,.int .i64 lo,.int .i64 hi,vl] w λe w'=>∃v',e= .returned v'∧Ints (λb=>Zl b∨w.heap.size≤b) w' v' (testsS nm lo hi f l)∧Below w.heap.size w w':=by
 intro m
 induction m with
 |zero=>intro f hm;have:=fsize_pos f;omega
 |succ m ih=>
 intro f hm Z Zl cs vl l w hf hl hne hlen;have eg:=Tryz.egTests;have IH:=hid ih;clear ih;have HU:=hid (show testsS nm lo hi f l=testssS nm lo hi f.kids (if f.op=3∧f.name=nm then putS (putS l f.num lo hi) (sucW f.num) lo hi else l) from by cases f;rw[testsS];rfl);have hfs:=fsize_eq f;have hnum:I64 f.num:=by cases f;unfold FmR at hf;exact hf.2.2.2.1
 obtain⟨A,cap,rfl⟩:=FmR.form hf;have hks:SeqR (λcs f=>FmR Z w f cs) 5 Z w f.kids A:=by cases f;unfold FmR at hf;obtain⟨_,_,_,_,A',cap',e,_,_,_,h⟩:=hf;injection e with _ e;injection e with _ e;injection e with _ e;injection e with _ e;injection e with e;injection e with e;subst e;exact FmsR.seq h
 have hkl:f.kids.length≤1000000:=by have:=length_le_fsizes f.kids;omega
 have HS:=hid hks;have HM:=hid (And.intro hm (And.intro hlen hfs));have HL:=hid hl;have hb0:=below1 w (.cells #[.int .i64 f.op,.string f.name,.int .i64 f.cmp,.int .i64 f.num,.slice A f.kids.length cap] 47);have hbx:=Blk.new w 47 #[.int .i64 f.op,.string f.name,.int .i64 f.cmp,.int .i64 f.num,.slice A f.kids.length cap];have hwl:w.heap.size<(w.alloc (.cells #[.int .i64 f.op,.string f.name,.int .i64 f.cmp,.int .i64 f.num,.slice A f.kids.length cap] 47)).heap.size :=by simp
 have HW0:=hid (And.intro hb0 hbx);clear hf hks hl hb0 hbx hm hlen hfs;go_enter Tryz.func142,Tryz.ntmps142
 by_cases hc:f.op=3∧f.name=nm
 ·have HR:=hid (HU.out.trans (by rw[if_pos hc]));have e1:(f.op==(3:Int))=true:=by simp[hc.1]
  have e2:(f.name.toList==nm.toList)=true:=by rw[toList_beq];simp[hc.2]
  clear hc HU;by_cases hmax:f.num=9223372036854775807
  ·(have hsu:sucW f.num= -9223372036854775808:=by unfold sucW;rw[if_pos hmax]);have HSU:=hid hsu;have HMAX:=hid hmax;clear hmax hsu;have b0:(w.alloc (.cells #[.int .i64 f.op,.string f.name,.int .i64 f.cmp,.int .i64 f.num,.slice A f.kids.length cap] 47)).cell? ⟨w.heap.size,0,none⟩=some (.int .i64 f.op):=HW0.out.2.cell 0;have b1:(w.alloc (.cells #[.int .i64 f.op,.string f.name,.int .i64 f.cmp,.int .i64 f.num,.slice A f.kids.length cap] 47)).cell? ⟨w.heap.size,1,none⟩=some (.string f.name):=HW0.out.2.cell 1;have b3:(w.alloc (.cells #[.int .i64 f.op,.string f.name,.int .i64 f.cmp,.int .i64 f.num,.slice A f.kids.length cap] 47)).cell? ⟨w.heap.size,3,none⟩=some (.int .i64 f.num):=HW0.out.2.cell 3;have HP1:=hid (refPut_any Zl vl l f.num lo hi _ (HL.out.keep (Keeps.of_below HW0.out.1)) hne (by have:=HM.out;omega) hnum);(go_wp2_with fail);refine HP1.out.mono ?_;rintro e w1 ⟨v1,rfl,hin1,hb1⟩;have hx1:=HW0.out.2.below hb1 HW0.out.2.lt;have hbw1:=HW0.out.1.trans (hb1.mono HW0.out.1.size);have hpl1:=putS_len l f.num lo hi;have hpn1:=putS_ne f.num lo hi hne
   have hin1':Ints (λb=>Zl b∨w.heap.size≤b) w1 v1 (putS l f.num lo hi):=hin1.mono λb hb=>by
    rcases hb with hb|hb
    ·exact Or.inl hb
    ·exact Or.inr (by omega)
   have HP2:=hid (refPut_any _ v1 (putS l f.num lo hi) (sucW f.num) lo hi w1 hin1' hpn1 (by have:=HM.out;omega) (sucW_i64 hnum));rw[show(#[v1,.int .i64 (sucW f.num),.int .i64 lo,.int .i64 hi]:Array Value)=#[v1,.int .i64 (wrap64 9223372036854775808),.int .i64 lo,.int .i64 hi] from by rw[HSU.out,wrap_max]]at HP2;have HW1:=hid (And.intro hbw1 (And.intro hx1 (And.intro hpl1 hpn1)));clear b0 b1 b3 hin1 hin1' hb1 hx1 hbw1 HP1;have b3:=HW1.out.2.1.at3;have b3l:=HW1.out.2.1.lt;rw[HMAX.out]at b3;(go_wp2_with fail);refine HP2.out.mono ?_;rintro e w2 ⟨v2,rfl,hin2,hb2⟩;have hbx:=HW1.out.2.1.below hb2 HW1.out.2.1.lt;have hb0:=HW1.out.1.trans (hb2.mono HW1.out.1.size)
   have hints:Ints (λb=>Zl b∨w.heap.size≤b) w2 v2 (putS (putS l f.num lo hi) (sucW f.num) lo hi):=hin2.mono λb hb=>by
    have:=HW1.out.1.size;rcases hb with hb|hb
    ·exact hb
    ·exact Or.inr (by omega)
   have hne0:=putS_ne (sucW f.num) lo hi hpn1;(have hlen0:(putS (putS l f.num lo hi) (sucW f.num) lo hi).length ≤l.length+2:=by have:=putS_len (putS l f.num lo hi) (sucW f.num) lo hi;omega);clear hin2 hb2 HP2 b3 b3l hpl1 hpn1;generalize putS (putS l f.num lo hi) (sucW f.num) lo hi=l0 at*;have HB0:=hid hb0;have hfm:=hbx.cell 4;have hfl:=hbx.lt;have HL0:=hid (And.intro hints (And.intro hne0 hlen0));have HBX0:=hid hbx;have b4:=hbx.at4;clear hb0 hbx hints hne0 hlen0 hfm;go_wp2;clear b4 hfl;go_loopw[4,11] (λvv ix wr=>∃(k:Nat)(v2:Value),k≤f.kids.length∧ix= .int .i64 k∧v2=vv∧Ints (λb=>Zl b∨w.heap.size≤b) wr v2 (testssS nm lo hi (f.kids.take k) l0)∧Below w.heap.size w wr∧Blk wr w.heap.size 47 #[.int .i64 f.op,.string f.name,.int .i64 f.cmp,.int .i64 f.num,.slice A f.kids.length cap]) (λ_ ix _=>f.kids.length-(intOf ix).toNat);case atStart=>exact⟨0,_,Nat.zero_le _,rfl,rfl,HL0.out.1,HB0.out,HBX0.out⟩
   case round=>
    obtain⟨k,v2,hk,rfl,rfl,hin,hbel,hbx⟩:=hrel;have b4:=hbx.at4;have b4l:=hbx.lt;have HB:=hid (And.intro hbel hbx);by_cases hlt:k<f.kids.length
    ·obtain⟨b',off,cs,rfl,hz,hcs,hfk⟩:=HS.out.at_ hlt;have hkz:Keeps Z w wr:= .of_below hbel;have hfk':=FmR.keep hkz _ _ hfk;obtain⟨A',cap',rfl⟩:=FmR.form hfk;have hle:=fsize_lt hlt;obtain⟨c0,c1,c2,c3,c4⟩:=five_cells (λj u hu=>hkz.cell (p:=⟨b',off+k*5+j,none⟩) hz (hcs j u hu));have cl:=lt_of_cell c0;have hts:=fsizes_take_succ hlt;have htl:=fsizes_take_le f.kids (k+1);have htn:=testssS_len nm lo hi (f.kids.take k) l0;have HCALL:=hid (IH.out f.kids[k] (by have:=HM.out;omega) Z _ _ v2 (testssS nm lo hi (f.kids.take k) l0) wr hfk' hin (htn.2 HL0.out.2.1) (by have h1:=HM.out;have h2:=HL0.out.2.2;have h3:=htn.1;omega));rw[<-testssS_take nm lo hi f.kids k hlt l0]at HCALL;(have hk1:((k:Nat):Int)<(f.kids.length:Int):=by omega);clear hin hcs hfk hfk' hkz hle hbx hbel hts htl htn;generalize f.kids[k]=g at*;(go_wp2_with fail);refine HCALL.out.mono ?_;rintro e w1 ⟨v3,rfl,hin3,hb1⟩;have hx:=HB.out.2.below hb1 HB.out.2.lt;have hbw:=HB.out.1.trans (hb1.mono HB.out.1.size)
     have H3:=hid (show Ints (λb=>Zl b∨w.heap.size≤b) w1 v3 (testssS nm lo hi (f.kids.take (k+1)) l0) from hin3.mono λb hb=>by
      rcases hb with hb|hb
      ·exact hb
      ·exact Or.inr (Nat.le_trans HB.out.1.size hb))
     clear hb1 hin3;go_wp2;go_roundw;(case rel=>exact⟨k+1,v3,by omega,by go_num,rfl,H3.out,hbw,hx⟩);case measure=>simp[intOf];omega
    ·(obtain rfl:k=f.kids.length:=by omega);rw[List.take_length]at hin;have HIN:=hid hin;clear hin hbel hbx;go_wp2;go_ret;rw[HR.out];exact⟨_,rfl,HIN.out,HB.out.1⟩
  ·(have hsu:sucW f.num=f.num+1:=by unfold sucW;rw[if_neg hmax]);have HSU:=hid hsu;clear hsu;have hn1:=hnum.1;have hn2:=hnum.2;have b0:(w.alloc (.cells #[.int .i64 f.op,.string f.name,.int .i64 f.cmp,.int .i64 f.num,.slice A f.kids.length cap] 47)).cell? ⟨w.heap.size,0,none⟩=some (.int .i64 f.op):=HW0.out.2.cell 0;have b1:(w.alloc (.cells #[.int .i64 f.op,.string f.name,.int .i64 f.cmp,.int .i64 f.num,.slice A f.kids.length cap] 47)).cell? ⟨w.heap.size,1,none⟩=some (.string f.name):=HW0.out.2.cell 1;have b3:(w.alloc (.cells #[.int .i64 f.op,.string f.name,.int .i64 f.cmp,.int .i64 f.num,.slice A f.kids.length cap] 47)).cell? ⟨w.heap.size,3,none⟩=some (.int .i64 f.num):=HW0.out.2.cell 3;have HP1:=hid (refPut_any Zl vl l f.num lo hi _ (HL.out.keep (Keeps.of_below HW0.out.1)) hne (by have:=HM.out;omega) hnum);(go_wp2_with fail);refine HP1.out.mono ?_;rintro e w1 ⟨v1,rfl,hin1,hb1⟩;have hx1:=HW0.out.2.below hb1 HW0.out.2.lt;have hbw1:=HW0.out.1.trans (hb1.mono HW0.out.1.size);have hpl1:=putS_len l f.num lo hi;have hpn1:=putS_ne f.num lo hi hne
   have hin1':Ints (λb=>Zl b∨w.heap.size≤b) w1 v1 (putS l f.num lo hi):=hin1.mono λb hb=>by
    rcases hb with hb|hb
    ·exact Or.inl hb
    ·exact Or.inr (by omega)
   have HP2:=hid (refPut_any _ v1 (putS l f.num lo hi) (sucW f.num) lo hi w1 hin1' hpn1 (by have:=HM.out;omega) (sucW_i64 hnum));rw[show(#[v1,.int .i64 (sucW f.num),.int .i64 lo,.int .i64 hi]:Array Value)=#[v1,.int .i64 (f.num+1),.int .i64 lo,.int .i64 hi] from by rw[HSU.out]]at HP2;have HW1:=hid (And.intro hbw1 (And.intro hx1 (And.intro hpl1 hpn1)));clear b0 b1 b3 hin1 hin1' hb1 hx1 hbw1 HP1;have b3:=HW1.out.2.1.at3;have b3l:=HW1.out.2.1.lt;(go_wp2_with fail);refine HP2.out.mono ?_;rintro e w2 ⟨v2,rfl,hin2,hb2⟩;have hbx:=HW1.out.2.1.below hb2 HW1.out.2.1.lt;have hb0:=HW1.out.1.trans (hb2.mono HW1.out.1.size)
   have hints:Ints (λb=>Zl b∨w.heap.size≤b) w2 v2 (putS (putS l f.num lo hi) (sucW f.num) lo hi):=hin2.mono λb hb=>by
    have:=HW1.out.1.size;rcases hb with hb|hb
    ·exact hb
    ·exact Or.inr (by omega)
   have hne0:=putS_ne (sucW f.num) lo hi hpn1;(have hlen0:(putS (putS l f.num lo hi) (sucW f.num) lo hi).length ≤l.length+2:=by have:=putS_len (putS l f.num lo hi) (sucW f.num) lo hi;omega);clear hin2 hb2 HP2 b3 b3l hpl1 hpn1;generalize putS (putS l f.num lo hi) (sucW f.num) lo hi=l0 at*;have HB0:=hid hb0;have hfm:=hbx.cell 4;have hfl:=hbx.lt;have HL0:=hid (And.intro hints (And.intro hne0 hlen0));have HBX0:=hid hbx;have b4:=hbx.at4;clear hb0 hbx hints hne0 hlen0 hfm;go_wp2;clear b4 hfl;go_loopw[4,11] (λvv ix wr=>∃(k:Nat)(v2:Value),k≤f.kids.length∧ix= .int .i64 k∧v2=vv∧Ints (λb=>Zl b∨w.heap.size≤b) wr v2 (testssS nm lo hi (f.kids.take k) l0)∧Below w.heap.size w wr∧Blk wr w.heap.size 47 #[.int .i64 f.op,.string f.name,.int .i64 f.cmp,.int .i64 f.num,.slice A f.kids.length cap]) (λ_ ix _=>f.kids.length-(intOf ix).toNat);case atStart=>exact⟨0,_,Nat.zero_le _,rfl,rfl,HL0.out.1,HB0.out,HBX0.out⟩
   case round=>
    obtain⟨k,v2,hk,rfl,rfl,hin,hbel,hbx⟩:=hrel;have b4:=hbx.at4;have b4l:=hbx.lt;have HB:=hid (And.intro hbel hbx);by_cases hlt:k<f.kids.length
    ·obtain⟨b',off,cs,rfl,hz,hcs,hfk⟩:=HS.out.at_ hlt;have hkz:Keeps Z w wr:= .of_below hbel;have hfk':=FmR.keep hkz _ _ hfk;obtain⟨A',cap',rfl⟩:=FmR.form hfk;have hle:=fsize_lt hlt;obtain⟨c0,c1,c2,c3,c4⟩:=five_cells (λj u hu=>hkz.cell (p:=⟨b',off+k*5+j,none⟩) hz (hcs j u hu));have cl:=lt_of_cell c0;have hts:=fsizes_take_succ hlt;have htl:=fsizes_take_le f.kids (k+1);have htn:=testssS_len nm lo hi (f.kids.take k) l0;have HCALL:=hid (IH.out f.kids[k] (by have:=HM.out;omega) Z _ _ v2 (testssS nm lo hi (f.kids.take k) l0) wr hfk' hin (htn.2 HL0.out.2.1) (by have h1:=HM.out;have h2:=HL0.out.2.2;have h3:=htn.1;omega));rw[<-testssS_take nm lo hi f.kids k hlt l0]at HCALL;(have hk1:((k:Nat):Int)<(f.kids.length:Int):=by omega);clear hin hcs hfk hfk' hkz hle hbx hbel hts htl htn;generalize f.kids[k]=g at*;(go_wp2_with fail);refine HCALL.out.mono ?_;rintro e w1 ⟨v3,rfl,hin3,hb1⟩;have hx:=HB.out.2.below hb1 HB.out.2.lt;have hbw:=HB.out.1.trans (hb1.mono HB.out.1.size)
     have H3:=hid (show Ints (λb=>Zl b∨w.heap.size≤b) w1 v3 (testssS nm lo hi (f.kids.take (k+1)) l0) from hin3.mono λb hb=>by
      rcases hb with hb|hb
      ·exact hb
      ·exact Or.inr (Nat.le_trans HB.out.1.size hb))
     clear hb1 hin3;go_wp2;go_roundw;(case rel=>exact⟨k+1,v3,by omega,by go_num,rfl,H3.out,hbw,hx⟩);case measure=>simp[intOf];omega
    ·(obtain rfl:k=f.kids.length:=by omega);rw[List.take_length]at hin;have HIN:=hid hin;clear hin hbel hbx;go_wp2;go_ret;rw[HR.out];exact⟨_,rfl,HIN.out,HB.out.1⟩
 ·have HR:=hid (HU.out.trans (by rw[if_neg hc]));by_cases h3:f.op=3
  ·(have e1:(f.op==(3:Int))=true:=by simp[h3]);(have e2:(f.name.toList==nm.toList)=false:=by rw[toList_beq];simp;exact λe=>hc ⟨h3,e⟩);clear hc h3 HU;have b0:(w.alloc (.cells #[.int .i64 f.op,.string f.name,.int .i64 f.cmp,.int .i64 f.num,.slice A f.kids.length cap] 47)).cell? ⟨w.heap.size,0,none⟩=some (.int .i64 f.op):=HW0.out.2.cell 0;have b1:(w.alloc (.cells #[.int .i64 f.op,.string f.name,.int .i64 f.cmp,.int .i64 f.num,.slice A f.kids.length cap] 47)).cell? ⟨w.heap.size,1,none⟩=some (.string f.name):=HW0.out.2.cell 1;have hints:=(HL.out.keep (Keeps.of_below HW0.out.1)).mono (λb hb=>Or.inl hb:∀b,Zl b->Zl b∨w.heap.size≤b);have hb0:=HW0.out.1;have hbx:=HW0.out.2;have hne0:=hne;(have hlen0:l.length≤l.length+2:=by omega);obtain⟨l0,hl0⟩:∃l0,l0=l:=⟨l,rfl⟩;rw[<-hl0]at hints hne0;have HR2:=hid (show testsS nm lo hi f l=testssS nm lo hi f.kids l0 from by rw[hl0];exact HR.out);clear HR;have HR:=HR2;(have hlen0:l0.length≤l.length+2:=by rw[hl0];omega);clear hl0;have HB0:=hid hb0;have hfm:=hbx.cell 4;have hfl:=hbx.lt;have HL0:=hid (And.intro hints (And.intro hne0 hlen0));have HBX0:=hid hbx;have b4:(w.alloc (.cells #[.int .i64 f.op,.string f.name,.int .i64 f.cmp,.int .i64 f.num,.slice A f.kids.length cap] 47)).cell? ⟨w.heap.size,4,none⟩=some (.slice A f.kids.length cap):=hbx.cell 4;clear hb0 hbx hints hne0 hlen0 hfm;go_wp2;clear b4 hfl;go_loopw[4,11] (λvv ix wr=>∃(k:Nat)(v2:Value),k≤f.kids.length∧ix= .int .i64 k∧v2=vv∧Ints (λb=>Zl b∨w.heap.size≤b) wr v2 (testssS nm lo hi (f.kids.take k) l0)∧Below w.heap.size w wr∧Blk wr w.heap.size 47 #[.int .i64 f.op,.string f.name,.int .i64 f.cmp,.int .i64 f.num,.slice A f.kids.length cap]) (λ_ ix _=>f.kids.length-(intOf ix).toNat);case atStart=>exact⟨0,_,Nat.zero_le _,rfl,rfl,HL0.out.1,HB0.out,HBX0.out⟩
   case round=>
    obtain⟨k,v2,hk,rfl,rfl,hin,hbel,hbx⟩:=hrel;have b4:=hbx.at4;have b4l:=hbx.lt;have HB:=hid (And.intro hbel hbx);by_cases hlt:k<f.kids.length
    ·obtain⟨b',off,cs,rfl,hz,hcs,hfk⟩:=HS.out.at_ hlt;have hkz:Keeps Z w wr:= .of_below hbel;have hfk':=FmR.keep hkz _ _ hfk;obtain⟨A',cap',rfl⟩:=FmR.form hfk;have hle:=fsize_lt hlt;obtain⟨c0,c1,c2,c3,c4⟩:=five_cells (λj u hu=>hkz.cell (p:=⟨b',off+k*5+j,none⟩) hz (hcs j u hu));have cl:=lt_of_cell c0;have hts:=fsizes_take_succ hlt;have htl:=fsizes_take_le f.kids (k+1);have htn:=testssS_len nm lo hi (f.kids.take k) l0;have HCALL:=hid (IH.out f.kids[k] (by have:=HM.out;omega) Z _ _ v2 (testssS nm lo hi (f.kids.take k) l0) wr hfk' hin (htn.2 HL0.out.2.1) (by have h1:=HM.out;have h2:=HL0.out.2.2;have h3:=htn.1;omega));rw[<-testssS_take nm lo hi f.kids k hlt l0]at HCALL;(have hk1:((k:Nat):Int)<(f.kids.length:Int):=by omega);clear hin hcs hfk hfk' hkz hle hbx hbel hts htl htn;generalize f.kids[k]=g at*;(go_wp2_with fail);refine HCALL.out.mono ?_;rintro e w1 ⟨v3,rfl,hin3,hb1⟩;have hx:=HB.out.2.below hb1 HB.out.2.lt;have hbw:=HB.out.1.trans (hb1.mono HB.out.1.size)
     have H3:=hid (show Ints (λb=>Zl b∨w.heap.size≤b) w1 v3 (testssS nm lo hi (f.kids.take (k+1)) l0) from hin3.mono λb hb=>by
      rcases hb with hb|hb
      ·exact hb
      ·exact Or.inr (Nat.le_trans HB.out.1.size hb))
     clear hb1 hin3;go_wp2;go_roundw;(case rel=>exact⟨k+1,v3,by omega,by go_num,rfl,H3.out,hbw,hx⟩);case measure=>simp[intOf];omega
    ·(obtain rfl:k=f.kids.length:=by omega);rw[List.take_length]at hin;have HIN:=hid hin;clear hin hbel hbx;go_wp2;go_ret;rw[HR.out];exact⟨_,rfl,HIN.out,HB.out.1⟩
  ·(have e1:(f.op==(3:Int))=false:=by simp[h3]);clear hc h3 HU;have b0:(w.alloc (.cells #[.int .i64 f.op,.string f.name,.int .i64 f.cmp,.int .i64 f.num,.slice A f.kids.length cap] 47)).cell? ⟨w.heap.size,0,none⟩=some (.int .i64 f.op):=HW0.out.2.cell 0;have b1:(w.alloc (.cells #[.int .i64 f.op,.string f.name,.int .i64 f.cmp,.int .i64 f.num,.slice A f.kids.length cap] 47)).cell? ⟨w.heap.size,1,none⟩=some (.string f.name):=HW0.out.2.cell 1;have hints:=(HL.out.keep (Keeps.of_below HW0.out.1)).mono (λb hb=>Or.inl hb:∀b,Zl b->Zl b∨w.heap.size≤b);have hb0:=HW0.out.1;have hbx:=HW0.out.2;have hne0:=hne;(have hlen0:l.length≤l.length+2:=by omega);obtain⟨l0,hl0⟩:∃l0,l0=l:=⟨l,rfl⟩;rw[<-hl0]at hints hne0;have HR2:=hid (show testsS nm lo hi f l=testssS nm lo hi f.kids l0 from by rw[hl0];exact HR.out);clear HR;have HR:=HR2;(have hlen0:l0.length≤l.length+2:=by rw[hl0];omega);clear hl0;have HB0:=hid hb0;have hfm:=hbx.cell 4;have hfl:=hbx.lt;have HL0:=hid (And.intro hints (And.intro hne0 hlen0));have HBX0:=hid hbx;have b4:(w.alloc (.cells #[.int .i64 f.op,.string f.name,.int .i64 f.cmp,.int .i64 f.num,.slice A f.kids.length cap] 47)).cell? ⟨w.heap.size,4,none⟩=some (.slice A f.kids.length cap):=hbx.cell 4;clear hb0 hbx hints hne0 hlen0 hfm;go_wp2;clear b4 hfl;go_loopw[4,11] (λvv ix wr=>∃(k:Nat)(v2:Value),k≤f.kids.length∧ix= .int .i64 k∧v2=vv∧Ints (λb=>Zl b∨w.heap.size≤b) wr v2 (testssS nm lo hi (f.kids.take k) l0)∧Below w.heap.size w wr∧Blk wr w.heap.size 47 #[.int .i64 f.op,.string f.name,.int .i64 f.cmp,.int .i64 f.num,.slice A f.kids.length cap]) (λ_ ix _=>f.kids.length-(intOf ix).toNat);case atStart=>exact⟨0,_,Nat.zero_le _,rfl,rfl,HL0.out.1,HB0.out,HBX0.out⟩
   case round=>
    obtain⟨k,v2,hk,rfl,rfl,hin,hbel,hbx⟩:=hrel;have b4:=hbx.at4;have b4l:=hbx.lt;have HB:=hid (And.intro hbel hbx);by_cases hlt:k<f.kids.length
    ·obtain⟨b',off,cs,rfl,hz,hcs,hfk⟩:=HS.out.at_ hlt;have hkz:Keeps Z w wr:= .of_below hbel;have hfk':=FmR.keep hkz _ _ hfk;obtain⟨A',cap',rfl⟩:=FmR.form hfk;have hle:=fsize_lt hlt;obtain⟨c0,c1,c2,c3,c4⟩:=five_cells (λj u hu=>hkz.cell (p:=⟨b',off+k*5+j,none⟩) hz (hcs j u hu));have cl:=lt_of_cell c0;have hts:=fsizes_take_succ hlt;have htl:=fsizes_take_le f.kids (k+1);have htn:=testssS_len nm lo hi (f.kids.take k) l0;have HCALL:=hid (IH.out f.kids[k] (by have:=HM.out;omega) Z _ _ v2 (testssS nm lo hi (f.kids.take k) l0) wr hfk' hin (htn.2 HL0.out.2.1) (by have h1:=HM.out;have h2:=HL0.out.2.2;have h3:=htn.1;omega));rw[<-testssS_take nm lo hi f.kids k hlt l0]at HCALL;(have hk1:((k:Nat):Int)<(f.kids.length:Int):=by omega);clear hin hcs hfk hfk' hkz hle hbx hbel hts htl htn;generalize f.kids[k]=g at*;(go_wp2_with fail);refine HCALL.out.mono ?_;rintro e w1 ⟨v3,rfl,hin3,hb1⟩;have hx:=HB.out.2.below hb1 HB.out.2.lt;have hbw:=HB.out.1.trans (hb1.mono HB.out.1.size)
     have H3:=hid (show Ints (λb=>Zl b∨w.heap.size≤b) w1 v3 (testssS nm lo hi (f.kids.take (k+1)) l0) from hin3.mono λb hb=>by
      rcases hb with hb|hb
      ·exact hb
      ·exact Or.inr (Nat.le_trans HB.out.1.size hb))
     clear hb1 hin3;go_wp2;go_roundw;(case rel=>exact⟨k+1,v3,by omega,by go_num,rfl,H3.out,hbw,hx⟩);case measure=>simp[intOf];omega
    ·(obtain rfl:k=f.kids.length:=by omega);rw[List.take_length]at hin;have HIN:=hid hin;clear hin hbel hbx;go_wp2;go_ret;rw[HR.out];exact⟨_,rfl,HIN.out,HB.out.1⟩
def startsR(f:Fm)(x:FactD):List Int:=testsS x.name x.lo x.hi f [x.lo]
theorem startsR_len(f:Fm)(x:FactD):1≤(startsR f x).length ∧(startsR f x).length ≤1+2*fsize f:=by
 obtain⟨h1,h2⟩:=testsS_len x.name x.lo x.hi f [x.lo];have:=List.length_pos_iff.2 (h2 (by simp));unfold startsR;simp at h1;omega
theorem refStarts_any(Z:Zone)(f:Fm)(x:FactD)(cs:List Value)(w:World)(hf:FmR Z w f cs)(hs:fsize f≤1000)(hx:x.fit):
  Calls Tryz.prog 110 #[.agg cs.toArray,.agg #[.string x.name,.int .i64 x.kind,.int .i64 x.lo,.int .i64 x.hi]] w λe w'=>∃v',e= .returned v'∧Ints (λb=>w.heap.size≤b) w' v' (startsR f x)∧Below w.heap.size w w':=by
 obtain⟨A,cap,rfl⟩:=FmR.form hf;have hb2:=((below1 w (.cells #[.int .i64 f.op,.string f.name,.int .i64 f.cmp,.int .i64 f.num,.slice A f.kids.length cap] 47)).alloc (by simp) (.cells #[.string x.name,.int .i64 x.kind,.int .i64 x.lo,.int .i64 x.hi] 95)).alloc (by simp;omega) (.cells #[.int .i64 x.lo] 3);have hown:=own_of_blk (W:=((w.alloc (.cells #[.int .i64 f.op,.string f.name,.int .i64 f.cmp,.int .i64 f.num,.slice A f.kids.length cap] 47)).alloc (.cells #[.string x.name,.int .i64 x.kind,.int .i64 x.lo,.int .i64 x.hi] 95)).alloc (.cells #[.int .i64 x.lo] 3)) (base:=w.heap.size) (g:=w.heap.size+1+1) (Blk.new' _ 3 #[.int .i64 x.lo] (by simp)) (by omega) (by simp[maxLen]);have hin:=Ints.of_own (xs:=[x.lo]) hown (λy hy=>by simp at hy;subst hy;exact hx.2.2.1) (by simp);have HC:=hid (refTests_any x.name x.lo x.hi (fsize f) f (Nat.le_refl _) Z _ _ _ [x.lo] _ (FmR.keep (.of_below hb2) _ _ hf) hin (by simp) (by simp;omega));have HB:=hid hb2;clear hf hb2 hown hin;go_enter Tryz.func110,Tryz.ntmps110
 go_wp2_with fail
 refine HC.out.mono ?_;rintro e w1 ⟨v1,rfl,hin1,hb1⟩;have hbw:=HB.out.trans (hb1.mono HB.out.size)
 have HI:=hid (show Ints (λb=>w.heap.size≤b) w1 v1 (startsR f x) from hin1.mono λb hb=>by
  rcases hb with hb|hb
  ·exact hb
  ·exact Nat.le_trans HB.out.size hb)
 clear hin1 hb1;go_wp2;go_ret;exact⟨_,rfl,HI.out,hbw⟩
theorem wrapI_id{q:Int}(h0: -9223372036854775808≤q)(h1:q≤9223372036854775807):IntKind.i64.wrap q=q:=by rw[IntKind.wrap_i64];omega
theorem mul_bound{a b A B:Int}(h0:1≤a)(h1:a≤A)(h2:1≤b)(h3:b≤B):1≤a*b∧a*b≤A*B:=by
 have e1:=Int.mul_le_mul h0 h2 (by omega) (by omega);have e2:=Int.mul_le_mul h1 h3 (by omega) (by omega);omega
def cellsR(f:Fm)(n:Int):List FactD->Int->Int
 |[],out=>out
 |x::r,out=>if n<out*(startsR f x).length then n+1 else cellsR f n r (out*(startsR f x).length)
theorem refCells_any(Z Zd:Zone)(f:Fm)(cs:List Value)(vd:Value)(ds:List FactD)(n:Int)(w:World)(hf:FmR Z w f cs)(hd:Facts Zd w vd ds)(hs:fsize f≤1000)(h0:1≤n)(h1:n≤1000000):
  Calls Tryz.prog 81 #[.agg cs.toArray,.agg #[vd],.int .i64 n] w λe w'=>e= .returned (.int .i64 (cellsR f n ds 1))∧Below w.heap.size w w':=by
 have HF:=hid hf;obtain⟨A,cap,rfl⟩:=FmR.form hf;obtain⟨D,dcap,rfl,hdcap,hdlen,hdat⟩:=hd.open_;have HD:=hid hdat;have hbx:=(Blk.new w 47 #[.int .i64 f.op,.string f.name,.int .i64 f.cmp,.int .i64 f.num,.slice A f.kids.length cap]).alloc (.cells #[.slice D ds.length dcap] 24);have hbd:=Blk.new' (w.alloc (.cells #[.int .i64 f.op,.string f.name,.int .i64 f.cmp,.int .i64 f.num,.slice A f.kids.length cap] 47)) 24 #[.slice D ds.length dcap] (n:=w.heap.size+1) (by simp);have hb0:=(below1 w (.cells #[.int .i64 f.op,.string f.name,.int .i64 f.cmp,.int .i64 f.num,.slice A f.kids.length cap] 47)).alloc (by simp) (.cells #[.slice D ds.length dcap] 24);have HW0:=hid (And.intro hbx (And.intro hbd hb0));clear hf hd hdat hbx hbd hb0;go_enter Tryz.func81,Tryz.ntmps81
 go_wp2;go_loopw[7,8] (λo i wr=>∃(k:Nat)(out:Int),k≤ds.length∧i= .int .i64 k∧o= .int .i64 out∧1≤out∧out≤n∧Blk wr w.heap.size 47 #[.int .i64 f.op,.string f.name,.int .i64 f.cmp,.int .i64 f.num,.slice A f.kids.length cap]∧Blk wr (w.heap.size+1) 24 #[.slice D ds.length dcap]∧Below w.heap.size w wr∧Hid (cellsR f n ds 1=cellsR f n (ds.drop k) out)) (λ_ i _=>ds.length-(intOf i).toNat);case atStart=>exact⟨0,1,Nat.zero_le _,rfl,rfl,by omega,h0,HW0.out.1,HW0.out.2.1,HW0.out.2.2,rfl⟩
 case round=>
  obtain⟨k,out,hk,rfl,rfl,ho1,ho2,hbx,hbd,hbel,hres⟩:=hrel;have d0:=hbd.at0;have d0l:=hbd.lt;have b0l:=hbx.lt;have HB:=hid (And.intro hbx (And.intro hbd hbel));by_cases hlt:k<ds.length
  ·obtain⟨fb,foff,rfl,-,hfbl,x0,x1,x2,x3,hfit⟩:=HD.out k hlt;replace x0:=brd hbel x0 hfbl;replace x1:=brd hbel x1 hfbl;replace x2:=brd hbel x2 hfbl;replace x3:=brd hbel x3 hfbl;have x0l:=lt_of_cell x0;have b0:=hbx.at0;have b1:=hbx.at1;have b2:=hbx.at2;have b3:=hbx.at3;have b4:=hbx.at4;have hdr:ds.drop k=ds[k]::ds.drop (k+1):=List.drop_eq_getElem_cons hlt;have hres':=hres.out;rw[hdr,cellsR]at hres';have HC:=hid (λW(hW:Below w.heap.size w W)=>refStarts_any Z f ds[k] _ W (FmR.keep (.of_below hW) _ _ HF.out) hs hfit);have hsl:=startsR_len f ds[k];(have hk1:((k:Nat):Int)<(ds.length:Int):=by omega);(have hk0:(0:Int)≤((k:Nat):Int):=by omega);have HR:=hid hres';clear hres hres' hdr hbx hbd hbel;generalize ds[k]=x at*;go_wp2
   go_region_held3(λw'=>w'.cell? ⟨w.heap.size,0,none⟩=some (.int .i64 f.op)∧w'.cell? ⟨w.heap.size,1,none⟩=some (.string f.name)∧w'.cell? ⟨w.heap.size,2,none⟩=some (.int .i64 f.cmp)∧w'.cell? ⟨w.heap.size,3,none⟩=some (.int .i64 f.num)∧w'.cell? ⟨w.heap.size,4,none⟩=some (.slice A f.kids.length cap)∧w'.cell? ⟨w.heap.size+1,0,none⟩=some (.slice (some ⟨fb,foff,none⟩) ds.length dcap)∧w'.cell? ⟨fb,foff+k*4,none⟩=some (.string x.name)∧w'.cell? ⟨fb,foff+k*4+1,none⟩=some (.int .i64 x.kind)∧w'.cell? ⟨fb,foff+k*4+2,none⟩=some (.int .i64 x.lo)∧w'.cell? ⟨fb,foff+k*4+3,none⟩=some (.int .i64 x.hi))
    (first|exact⟨p0,p1,p2,p3,p4,p5,p6,p7,p8,p9⟩|(refine⟨?_,?_,?_,?_,?_,?_,?_,?_,?_,?_⟩<;>go_keep))
    (first
     |(go_at_call 110;refine(HC.out _ HB.out.2.2.drew).mono ?_;rintro e w6 ⟨v6,rfl,hin6,hb6⟩;obtain⟨A6,cap6,rfl,-⟩:=hin6.form;have hbx6:=HB.out.1.drew.below hb6 b0l;have hbd6:=HB.out.2.1.drew.below hb6 d0l;have p0:w6.cell? ⟨w.heap.size,0,none⟩=some (.int .i64 f.op):=hbx6.cell 0;have p1:w6.cell? ⟨w.heap.size,1,none⟩=some (.string f.name):=hbx6.cell 1;have p2:w6.cell? ⟨w.heap.size,2,none⟩=some (.int .i64 f.cmp):=hbx6.cell 2;have p3:w6.cell? ⟨w.heap.size,3,none⟩=some (.int .i64 f.num):=hbx6.cell 3;have p4:w6.cell? ⟨w.heap.size,4,none⟩=some (.slice A f.kids.length cap):=hbx6.cell 4;have p5:w6.cell? ⟨w.heap.size+1,0,none⟩=some (.slice (some ⟨fb,foff,none⟩) ds.length dcap):=hbd6.cell 0;have p6:=brd hb6 x0 x0l;have p7:=brd hb6 x1 x0l;have p8:=brd hb6 x2 x0l;have p9:=brd hb6 x3 x0l))
   have hmb:=mul_bound ho1 (show out≤1000000 by omega) (show(1:Int)≤((startsR f x).length :Int) by omega) (show((startsR f x).length :Int)≤2001 by omega);have HB6:=hid (And.intro hbx6 (And.intro hbd6 (HB.out.2.2.drew.trans (hb6.mono HB.out.2.2.size))));have hwr:=wrapI_id (q:=out*((startsR f x).length :Int)) (by omega) (by omega);rw[hwr];clear hwr p0 p1 p2 p3 p4 p5 p6 p7 p8 p9 hin6 hb6 hbx6 hbd6 HC hsl d0 d0l b0l b0 b1 b2 b3 b4 x0 x1 x2 x3 x0l;generalize out*((startsR f x).length :Int)=q at*;by_cases hnq:n<q
   ·rw[if_pos hnq]at HR;(have e1:decide (n<q)=true:=by simpa using hnq);clear hnq;go_wp2;go_ret;rw[HR.out];exact⟨rfl,HB6.out.2.2⟩
   ·rw[if_neg hnq]at HR;(have e1:decide (n<q)=false:=by simpa using hnq);(have hq2:q≤n:=by omega);clear hnq;go_wp2;go_roundw;(case rel=>exact⟨k+1,q,by omega,by go_num,rfl,hmb.1,hq2,HB6.out.1,HB6.out.2.1,HB6.out.2.2,HR⟩);case measure=>simp[intOf];omega
  ·(obtain rfl:k=ds.length:=by omega);have hres':=hres.out;rw[List.drop_length,cellsR]at hres';have HR:=hid hres';clear hres hres' hbx hbd hbel;go_wp2;go_ret;rw[HR.out];exact⟨rfl,HB.out.2.2⟩
section
open Go.Shelf
def SomeB(w:World)(e:Ending)(w':World):Prop:=∃b:Bool,e= .returned (.bool b)∧Below w.heap.size w w'
theorem few24_any(Z:Zone)(v:Value)(ds:List FactD)(n:Int)(hn:I64 n)(w:World)(h:Facts Z w v ds)(hz:∀b,Z b->b<w.heap.size):
  Calls Tryz.prog 46 #[.agg #[v],.int .i64 n] w (SomeB w):=by
 obtain⟨⟨A,cap,rfl,hcap,_,hbytes,hs⟩,hfit⟩:=h;have HS:=hid (And.intro hs hz);have HF:=hid hfit;have bk:=Blk.new w 24 #[.slice A ds.length cap];have hb0:=below1 w (.cells #[.slice A ds.length cap] 24);have hll:ds.length≤140737488355328:=by omega
 clear hs hz hfit hbytes;go_enter Tryz.func46,Tryz.ntmps46
 go_upto_region 1 with fail
 generalize w.alloc (.cells #[.slice A ds.length cap] 24)=w0 at*;have HB:=hid (And.intro bk hb0);clear bk hb0;go_wp2;go_loopw[5] (λiv wr=>∃k:Nat,k≤ds.length∧iv= .int .i64 k∧Blk wr w.heap.size 24 #[.slice A ds.length cap]∧Below w.heap.size w wr) (λiv _=>ds.length-(intOf iv).toNat);case atStart=>exact⟨0,Nat.zero_le _,rfl,HB.out.1,HB.out.2⟩
 case round=>
  obtain⟨k,hk,rfl,hbk,hbe⟩:=hrel;clear HB;have b0:=hbk.at0;have bl:=hbk.lt;by_cases hlt:k<ds.length
  ·obtain⟨b,off,cs,rfl,hzb,hc,hR⟩:=HS.out.1.at_ hlt;have hbs:=HS.out.2 b hzb;subst hR;have hcb:=cells_below hbe hbs hc;have c0:wr.cell? ⟨b,off+k*4,none⟩=some (.string ds[k].name):=hcb 0 _ rfl;have cl:=lt_of_cell c0;have hns:=(HF.out ds[k] (List.getElem_mem hlt)).1;(have hk1:((k:Nat):Int)<(ds.length:Int):=by omega);(have hk0:(0:Int)≤((k:Nat):Int):=by omega);clear hc hcb;generalize ds[k].name =nm at*;have HBK:=hid (And.intro hbk hbe);clear hbk hbe;by_cases hkn:((k:Nat):Int)<n
   ·by_cases h1:nm.size≤100
    ·(go_wp2_with fail);go_roundw;(case rel=>exact⟨k+1,by omega,by go_num,HBK.out.1,HBK.out.2⟩);case measure=>simp[intOf];omega
    ·(go_wp2_with fail);go_ret;exact⟨_,rfl,HBK.out.2⟩
   ·(go_wp2_with fail);go_ret;exact⟨_,rfl,HBK.out.2⟩
  ·(obtain rfl:k=ds.length:=by omega);have HBK:=hid hbe;clear hbk hbe;(go_wp2_with fail);go_ret;exact⟨_,rfl,HBK.out⟩
end
end Go.Proofs.YtimmfbnjndndlaaGreatDoor
