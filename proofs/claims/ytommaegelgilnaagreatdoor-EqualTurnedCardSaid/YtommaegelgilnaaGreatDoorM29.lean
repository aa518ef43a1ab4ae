/- Lemmas. -/
import Derived.Test.YtommaegelgilnaaGreatDoorM25
import Derived.Test.YtommaegelgilnaaGreatDoorM26
set_option linter.all false
namespace Go.Proofs.YtommaegelgilnaaGreatDoor
open Go.RowKit Go.Proofs.Tryz
set_option maxHeartbeats 8000000
set_option maxRecDepth 100000
variable {G base i k:Nat}{Z:zD}{e:TypeId}{g:List zB}{l:List Int}{n:zB}{u w wr:World}{v1:Value}{xs:List Value}
theorem zH8(d:Array Int)(g:∀i j,i<=j->j<d.size->d[i]! <=d[j]!):∀m,m<=d.size->(Lib.compactUpTo d m).Pairwise (· < ·)/\∀v,v∈Lib.compactUpTo d m↔∃j,j<m/\d[j]! =v
 |0,_=>by simp[Lib.compactUpTo]
 |m+1,hm=>by
  obtain⟨k,f⟩:=zH8 d g m (by omega);rw[Lib.compactUpTo_succ];by_cases c:Lib.keeps d m=true
  ·rw[if_pos c];refine⟨List.pairwise_append.2 ⟨k,by simp,λa o b n=> ?_⟩,λv=> ?_⟩
   ·rw[List.mem_singleton]at n;subst n;obtain⟨j,e,rfl⟩:=(f a).1 o;have q:=g j (m-1) (by omega) (by omega);have s:=g (m-1) m (by omega) (by omega);unfold Lib.keeps at c;simp at c;omega
   rw[List.mem_append,f,List.mem_singleton];constructor
   ·rintro(⟨j,e,rfl⟩|rfl)
    ·exact⟨j,by omega,rfl⟩
    exact⟨m,by omega,rfl⟩
   rintro⟨j,e,rfl⟩;by_cases h:j=m
   ·subst h;exact Or.inr rfl
   exact Or.inl ⟨j,by omega,rfl⟩
  rw[if_neg c,List.append_nil];refine⟨k,λv=> ?_⟩;rw[f];unfold Lib.keeps at c;simp at c;constructor
  ·rintro⟨j,e,rfl⟩;exact⟨j,by omega,rfl⟩
  rintro⟨j,e,rfl⟩;by_cases h:j=m
  ·subst h;exact⟨j-1,by omega,by omega⟩
  exact⟨j,by omega,rfl⟩
theorem zGe(d:l.Pairwise (· <= ·)):(Lib.compact l).Pairwise (· < ·)/\∀v,v∈Lib.compact l↔v∈l:=by
 have h:=zH8 l.toArray (λi j c a=>by
  have b:j<l.length:=by simpa using a
  rw[getElem!_pos l.toArray i (by simp;omega),getElem!_pos l.toArray j a];simp only[List.getElem_toArray];rcases Nat.lt_or_ge i j with h|h
  ·exact List.pairwise_iff_getElem.1 d i j (by omega) b h
  obtain rfl:i=j:=by omega
  exact Int.le_refl _) l.length (by simp)
 refine⟨h.1,λv=>(h.2 v).trans ⟨?_,λe=> ?_⟩⟩
 ·rintro⟨j,a,rfl⟩;rw[getElem!_pos l.toArray j (by simpa using a)];simp
 obtain⟨j,a,rfl⟩:=List.getElem_of_mem e;exact⟨j,a,by rw[getElem!_pos l.toArray j (by simpa using a)];simp⟩
theorem zFE{hi:Int}:∀{l:List Int}{lo:Int},(lo::l).Pairwise (· < ·)->(∀v∈l,v<=hi)->zAE lo hi l
 |[],_,_,_=>trivial
 |a::r,lo,h,hh=>by
  rw[List.pairwise_cons]at h;exact⟨h.1 a (by simp),hh a (by simp),zFE h.2 λv b=>hh v (by simp[b])⟩
theorem zQU{f:Fm}{x:zE}(w:x.lo<=x.hi)(p:Int->Bool)(t:∀n,p n=true↔n<x.lo\/x.hi<n):
  Lib.compact ((((x.lo::(zAX x.name f).flatMap λn=>[n,n+1]).mergeSort λa b=>decide (a<=b))).filter λn=> !p n)=zR f x:=by
 generalize u:((zAX x.name f).flatMap λn=>[n,n+1])=q
 have g:((x.lo::q).mergeSort λa b=>decide (a<=b)).Pairwise (· <= ·):=by
  have:=List.pairwise_mergeSort (le:=λa b:Int=>decide (a<=b)) (λa b c i m=>by simp at i m⊢;omega) (λa b=>by simp;omega) (x.lo::q);exact this.imp λh=>by simpa using h
 obtain⟨i,m⟩:=zGe (g.filter λn=> !p n);generalize Lib.compact (((x.lo::q).mergeSort λa b=>decide (a<=b)).filter λn=> !p n)=L at*
 have d:∀v,v∈L↔(v=x.lo\/v∈q)/\x.lo<=v/\v<=x.hi:=λv=>by
  rw[m,List.mem_filter,List.mem_mergeSort,List.mem_cons];have:=t v;cases k:p v
  ·rw[k]at this;simp at this⊢;omega
  rw[k]at this;simp at this⊢;omega
 have j:x.lo∈L:=(d _).2 ⟨Or.inl rfl,Int.le_refl _,w⟩
 cases L with
 |nil=>simp at j
 |cons a r=>
 rw[List.pairwise_cons]at i
 have s:a=x.lo:=by
  have:=((d a).1 (by simp)).2.1;rcases List.mem_cons.1 j with h|h
  ·exact h.symm
  have:=i.1 _ h;omega
 subst s;unfold zR;rw[u];congr 1;refine zJU (zFE (lo:=x.lo) (hi:=x.hi) (List.pairwise_cons.2 i) λv e=>((d v).1 (by simp[e])).2.2) (zFj λv e=>by simpa using(List.mem_filter.1 e).2) λv=> ?_
 rw[zFi,List.mem_filter];constructor
 ·intro e;have o:=(d v).1 (by simp[e]);have y:=i.1 v e;rcases o.1 with h|h
  ·omega
  exact⟨h,by simp;omega⟩
 rintro⟨e,o⟩;simp at o;rcases List.mem_cons.1 ((d v).2 ⟨Or.inr e,by omega,by omega⟩)with h|h
 ·omega
 exact h
def zBx(l:List Int)(n lo hi:Int):List Int:=if n<lo\/hi<n then l else zCp l n
def zD4:List Int->Int->Nat
 |[],_=>0
 |a::r,n=>if a<n then zD4 r n+1 else 0
theorem zSp(n:Int):∀l:List Int,zD4 l n<=l.length
 |[]=>Nat.le_refl _
 |a::r=>by unfold zD4;split;have:=zSp n r;simp;omega;simp
theorem zKM(n:Int):∀(l:List Int)(k:Nat),k<=l.length->(∀j,j<k->l.getD j 0<n)->(k<l.length->¬l.getD k 0<n)->zD4 l n=k
 |[],k,hk,_,_=>by simp at hk;subst hk;rfl
 |a::r,0,_,_,h=>by unfold zD4;rw[if_neg (by have:=h (by simp);simpa using this)]
 |a::r,k+1,hk,h1,h2=>by
  unfold zD4;rw[if_pos (by have:=h1 0 (by omega);simpa using this),zKM n r k (by simpa using hk) (λj c=>by have:=h1 (j+1) (by omega);simpa using this) (λb=>by have:=h2 (by simpa using b);simpa using this)]
theorem zMZ(n:Int):∀l:List Int,zCp l n=if zD4 l n<l.length/\l.getD (zD4 l n) 0=n then l else l.take (zD4 l n)++n::l.drop (zD4 l n)
 |[]=>by simp[zCp,zD4]
 |a::r=>by
  have ih:=zMZ n r;unfold zCp zD4;by_cases h:a<n
  ·rw[if_neg (by omega),if_neg (by omega),if_pos h,ih];by_cases b:zD4 r n<r.length/\r.getD (zD4 r n) 0=n
   ·rw[if_pos b,if_pos (by simpa using b)]
   rw[if_neg b,if_neg (by simpa using b)];simp
  rw[if_neg h];by_cases b:n<a
  ·rw[if_pos b,if_neg (by simp;omega)];simp
  rw[if_neg b,if_pos (by omega),if_pos (by simp;omega)]
theorem zM0(t:TypeId):(w.alloc (.cells #[] t)).ownsRow w.heap.size t 1 (.slice (some ⟨w.heap.size,0,none⟩) 0 0) 0 []:=by
 have:=zEx (W:=w.alloc (.cells #[] t)) (base:=w.heap.size) (Blk.new w t #[]) (Nat.le_refl _) (by simp);simpa using this
theorem zGM(Z:zD)(v:Value)(l:List Int)(n lo hi:Int)(w:World)(h:zO Z w v l)(av:l≠[])(hl:l.length<=1000000)(hn:I64 n):
  Calls prog 195 #[v,.int .i64 n,.int .i64 lo,.int .i64 hi] w λe w'=>∃v',e= .returned v'/\zO (λb=>Z b\/w.heap.size<=b) w' v' (zBx l n lo hi)/\Bw w w':=by
 obtain⟨b,N,ah,rfl,hz,hb,ax,hc⟩:=h.open_ av;have HI:=hid h;have aw:ah<=9223372036854775807:=by obtain⟨⟨_,_,e,_,h2,_⟩,_⟩:=h;injection e with _ _ e;omega
 have HC:=hid hc;have H:=hid (λ(W:World)(K:Bw w W)=>(h.keep (.of_below K)).mono (λb hb=>Or.inl hb:∀b,Z b->Z b\/w.heap.size<=b));have HU:=hid (show zBx l n lo hi=if n<lo\/hi<n then l else zCp l n from rfl);clear h hc;go_enter func195,ntmps195
 by_cases h1:n<lo
 ·have e1:decide (n<lo)=true:=by simpa using h1
  have O:=hid (HU.out.trans (if_pos (Or.inl h1)));clear h1 HU;go_wp2;go_ret;rw[O.out];exact⟨_,rfl,H.out _ (Below.refl _ _),Below.refl _ _⟩
 have e1:decide (n<lo)=false:=by simpa using h1
 by_cases h2:hi<n
 ·have e2:decide (hi<n)=true:=by simpa using h2
  have O:=hid (HU.out.trans (if_pos (Or.inr h2)));clear h1 h2 HU;go_wp2;go_ret;rw[O.out];exact⟨_,rfl,H.out _ (Below.refl _ _),Below.refl _ _⟩
 have e2:decide (hi<n)=false:=by simpa using h2
 have J:=hid (HU.out.trans (if_neg (show ¬(n<lo\/hi<n) by omega)));rw[zMZ]at J;clear h1 h2 HU;go_wp2;go_loopw[9] (λi wr=>∃k:Nat,k<=l.length/\i= .int .i64 k/\w=wr/\Hid (∀j,j<k->l.getD j 0<n)) (λi _=>l.length-(intOf i).toNat);case atStart=>exact⟨0,Nat.zero_le _,rfl,rfl,λj F=>absurd F (Nat.not_lt_zero _)⟩
 case round=>
  obtain⟨k,hk,rfl,rfl,D⟩:=hrel;by_cases ad:k<l.length
  ·have az:=HC.out k ad;(have a1:((k:Nat):Int)<(l.length:Int):=by omega);(have a0:(0:Int)<=((k:Nat):Int):=by omega);have ag:=hid (show ¬l.getD k 0<n->zD4 l n=k from λh=>zKM n l k hk D.out (λ_=>h))
   have af:=hid (show l.getD k 0<n->∀j,j<k+1->l.getD j 0<n from λh j F=>by
    by_cases e:j=k
    ·subst e;exact h
    exact D.out j (by omega))
   have ap:=hid (show ∃x,l.getD k 0=x from⟨_,rfl⟩);generalize o:l.getD k 0=x at*;have HX:=hid o;clear o D ap;by_cases I:x<n
   ·(have e3:decide (x<n)=true:=by simpa using I);have O:=hid (af.out I);clear I af ag;go_wp2;go_roundw;(case rel=>exact⟨k+1,by omega,by go_num,trivial,O⟩);case measure=>simp[intOf];omega
   (have e3:decide (x<n)=false:=by simpa using I);have L:=ag.out I;rw[L]at J;by_cases M:x=n
   ·(have e4:(x==n)=true:=by simp[M]);have O:=hid (J.out.trans (if_pos ⟨ad,HX.out.trans M⟩));clear I M af ag L;go_wp2;go_ret;rw[O.out];exact⟨_,rfl,H.out _ (Below.refl _ _),Below.refl _ _⟩
   (have e4:(x==n)=false:=by simp[M]);have O:=hid (J.out.trans (if_neg (λh=>M (HX.out.symm.trans h.2))));clear I M af ag L;(have au:k<=l.length:=by omega);(have ar:((k:Nat):Int)<=(ah:Int):=by omega);have R:=hid (λ(W:World)(K:Bw w W)(j:Nat)(F:j<l.length)=>(K.cell (p:=⟨b,N+j,none⟩) hb).trans (HC.out j F))
   have ai:=hid (λ(W:World)(K:Bw w W)=>(show ∀j u,((l.take k).map (Value.int .i64))[j]? =some u->W.cell? ⟨b,N+j,none⟩=some u from λj u d=>by
    rw[List.getElem?_map,List.getElem?_take]at d;split at d
    ·rename_i F;rw[List.getElem?_eq_getElem (by omega)]at d;simp only[Option.map_some,Option.some.injEq]at d;rw[<-d,R.out W K j (by omega)];simp[List.getD_eq_getElem?_getD,show j<l.length by omega]
    simp at d))
   have aj:=hid (λ(W:World)(K:Bw w W)=>(show ∀j u,((l.drop k).map (Value.int .i64))[j]? =some u->W.cell? ⟨b,N+k+j,none⟩=some u from λj u d=>by
    rw[List.getElem?_map,List.getElem?_drop]at d;by_cases F:k+j<l.length
    ·rw[List.getElem?_eq_getElem F]at d;simp only[Option.map_some,Option.some.injEq]at d;rw[<-d,Nat.add_assoc,R.out W K (k+j) F];simp[List.getD_eq_getElem?_getD,F]
    rw[List.getElem?_eq_none (by omega)]at d;simp at d))
   have P:=hid (zG w (.cells #[] 3));have T:=hid (zM0 (w:=w) 3);(go_upto_region 9 with(first|(at_builtin;refine zh rfl (.tmp 47) (.tmp 50) _ rfl underlying33 Tryz.eInt rfl T.out rfl (news:=(l.take k).map (Value.int .i64)) (by rw[List.length_map,List.length_take];omega) (ai.out _ P.out) (λu d=>by obtain⟨x,-,rfl⟩:=List.mem_map.1 d;rfl) (by unfold maxLen;omega) (by omega) (by simp) ?_;intro v5 w5 c ab Y;have z:=zAs P.out T.out ab (by simp) (Nat.le_refl _);rw[Nat.zero_add,List.nil_append]at c;obtain⟨A5,X,ak,-,-,-⟩:=Row.of_own c (by decide);subst ak)));have s:=hid z;have g:w5.ownsRow w.heap.size 3 1 (.slice A5 k X) k ((l.take k).map (Value.int .i64)):=c;have U:=hid g;clear c g ab Y z;(go_upto_region 10 with(first|(at_builtin;refine zh rfl (.tmp 52) (.tmp 54) _ rfl underlying33 Tryz.eInt rfl (U.out.alloc _) rfl (news:=[.int .i64 n]) rfl (one_cell (by simp)) (by simp[Value.oneCell']) (by unfold maxLen;omega) (by omega) (by have:=s.out.size;simp;omega) ?_;intro v6 w6 f ac aa;have A:=zAs (s.out.alloc s.out.size _) (U.out.alloc _) ac (by have:=s.out.size;simp;omega) (Nat.le_refl _);obtain⟨A6,ao,al,-,-,-⟩:=Row.of_own f (by decide);subst al)));have q:=hid A;have G:=hid f;clear f ac aa A;go_wp2_with(first|(at_builtin;refine zh rfl (.tmp 56) (.tmp 59) _ rfl underlying33 Tryz.eInt rfl G.out rfl (news:=(l.drop k).map (Value.int .i64)) (by rw[List.length_map,List.length_drop];omega) (aj.out _ q.out) (λu d=>by obtain⟨x,-,rfl⟩:=List.mem_map.1 d;rfl) (by unfold maxLen;omega) (by omega) (by have:=q.out.size;omega) ?_;intro v7 w7 a B y;have m:=zAs q.out G.out B (by have:=q.out.size;omega) (Nat.le_refl _);obtain⟨A7,t,ae,-,-,-⟩:=Row.of_own a (by decide);subst ae));have V:=hid a;have Q:=hid m;clear a B y m;go_ret;rw[O.out];have C:(l.take k++n::l.drop k).length =k+1+(l.length-k):=by simp;omega
   have E:w7.ownsRow w.heap.size 3 1 (.slice A7 (k+1+(l.length-k)) t) (k+1+(l.length-k)) ((l.take k++n::l.drop k).map (Value.int .i64)):=by
    have h:=V.out;simpa using h
   refine⟨_,rfl,(zO.of_own E (λx o=> ?_) (by rw[C];omega)).mono λb hb=>Or.inr hb,Q.out⟩;rcases List.mem_append.1 o with o|o
   ·exact HI.out.fit x (List.mem_of_mem_take o)
   rcases List.mem_cons.1 o with rfl|o
   ·exact hn
   exact HI.out.fit x (List.mem_of_mem_drop o)
  have L:=zKM n l k hk D.out (λh=>absurd h ad);rw[L]at J;have O:=hid (J.out.trans (if_neg (λh=>ad h.1)));have e5:decide (k<l.length)=false:=by simpa using ad
  have ay:decide ((k:Int)<(l.length:Int))=false:=by simp;omega
  clear D L;have au:k<=l.length:=by omega
  have ar:((k:Nat):Int)<=(ah:Int):=by omega
  have R:=hid (λ(W:World)(K:Bw w W)(j:Nat)(F:j<l.length)=>(K.cell (p:=⟨b,N+j,none⟩) hb).trans (HC.out j F))
  have ai:=hid (λ(W:World)(K:Bw w W)=>(show ∀j u,((l.take k).map (Value.int .i64))[j]? =some u->W.cell? ⟨b,N+j,none⟩=some u from λj u d=>by
   rw[List.getElem?_map,List.getElem?_take]at d;split at d
   ·rename_i F;rw[List.getElem?_eq_getElem (by omega)]at d;simp only[Option.map_some,Option.some.injEq]at d;rw[<-d,R.out W K j (by omega)];simp[List.getD_eq_getElem?_getD,show j<l.length by omega]
   simp at d))
  have aj:=hid (λ(W:World)(K:Bw w W)=>(show ∀j u,((l.drop k).map (Value.int .i64))[j]? =some u->W.cell? ⟨b,N+k+j,none⟩=some u from λj u d=>by
   rw[List.getElem?_map,List.getElem?_drop]at d;by_cases F:k+j<l.length
   ·rw[List.getElem?_eq_getElem F]at d;simp only[Option.map_some,Option.some.injEq]at d;rw[<-d,Nat.add_assoc,R.out W K (k+j) F];simp[List.getD_eq_getElem?_getD,F]
   rw[List.getElem?_eq_none (by omega)]at d;simp at d))
  have P:=hid (zG w (.cells #[] 3));have T:=hid (zM0 (w:=w) 3);go_upto_region 9 with(first|(at_builtin;refine zh rfl (.tmp 47) (.tmp 50) _ rfl underlying33 Tryz.eInt rfl T.out rfl (news:=(l.take k).map (Value.int .i64)) (by rw[List.length_map,List.length_take];omega) (ai.out _ P.out) (λu d=>by obtain⟨x,-,rfl⟩:=List.mem_map.1 d;rfl) (by unfold maxLen;omega) (by omega) (by simp) ?_;intro v5 w5 c ab Y;have z:=zAs P.out T.out ab (by simp) (Nat.le_refl _);rw[Nat.zero_add,List.nil_append]at c;obtain⟨A5,X,ak,-,-,-⟩:=Row.of_own c (by decide);subst ak))
  have s:=hid z;have g:w5.ownsRow w.heap.size 3 1 (.slice A5 k X) k ((l.take k).map (Value.int .i64)):=c;have U:=hid g;clear c g ab Y z;go_upto_region 10 with(first|(at_builtin;refine zh rfl (.tmp 52) (.tmp 54) _ rfl underlying33 Tryz.eInt rfl (U.out.alloc _) rfl (news:=[.int .i64 n]) rfl (one_cell (by simp)) (by simp[Value.oneCell']) (by unfold maxLen;omega) (by omega) (by have:=s.out.size;simp;omega) ?_;intro v6 w6 f ac aa;have A:=zAs (s.out.alloc s.out.size _) (U.out.alloc _) ac (by have:=s.out.size;simp;omega) (Nat.le_refl _);obtain⟨A6,ao,al,-,-,-⟩:=Row.of_own f (by decide);subst al))
  have q:=hid A;have G:=hid f;clear f ac aa A;by_cases aq:ah=k
  ·go_wp2_with(first|(at_builtin;refine zh rfl (.tmp 56) (.tmp 59) _ rfl underlying33 Tryz.eInt rfl G.out rfl (news:=[]) (by simp;omega) (λj u d=>by simp at d) (λu d=>by simp at d) (by unfold maxLen;omega) (by omega) (by have:=q.out.size;omega) ?_;intro v7 w7 a B y;have m:=zAs q.out G.out B (by have:=q.out.size;omega) (Nat.le_refl _);obtain⟨A7,t,ae,-,-,-⟩:=Row.of_own a (by decide);subst ae));have V:=hid a;have Q:=hid m;clear a B y m;go_ret;rw[O.out];have C:(l.take k++n::l.drop k).length =k+1+(l.length-k):=by simp;omega
   have E:w7.ownsRow w.heap.size 3 1 (.slice A7 (k+1+(l.length-k)) t) (k+1+(l.length-k)) ((l.take k++n::l.drop k).map (Value.int .i64)):=by
    have h:=V.out;have hd:l.drop k=[]:=List.drop_eq_nil_of_le (by omega);rw[hd];simpa using h
   refine⟨_,rfl,(zO.of_own E (λx o=> ?_) (by rw[C];omega)).mono λb hb=>Or.inr hb,Q.out⟩;rcases List.mem_append.1 o with o|o
   ·exact HI.out.fit x (List.mem_of_mem_take o)
   rcases List.mem_cons.1 o with rfl|o
   ·exact hn
   exact HI.out.fit x (List.mem_of_mem_drop o)
  go_wp2_with(first|(at_builtin;refine zh rfl (.tmp 56) (.tmp 59) _ rfl underlying33 Tryz.eInt rfl G.out rfl (news:=(l.drop k).map (Value.int .i64)) (by rw[List.length_map,List.length_drop];omega) (aj.out _ q.out) (λu d=>by obtain⟨x,-,rfl⟩:=List.mem_map.1 d;rfl) (by unfold maxLen;omega) (by omega) (by have:=q.out.size;omega) ?_;intro v7 w7 a B y;have m:=zAs q.out G.out B (by have:=q.out.size;omega) (Nat.le_refl _);obtain⟨A7,t,ae,-,-,-⟩:=Row.of_own a (by decide);subst ae));have V:=hid a;have Q:=hid m;clear a B y m;go_ret;rw[O.out];have C:(l.take k++n::l.drop k).length =k+1+(l.length-k):=by simp;omega
  have E:w7.ownsRow w.heap.size 3 1 (.slice A7 (k+1+(l.length-k)) t) (k+1+(l.length-k)) ((l.take k++n::l.drop k).map (Value.int .i64)):=by
   have h:=V.out;simpa using h
  refine⟨_,rfl,(zO.of_own E (λx o=> ?_) (by rw[C];omega)).mono λb hb=>Or.inr hb,Q.out⟩;rcases List.mem_append.1 o with o|o
  ·exact HI.out.fit x (List.mem_of_mem_take o)
  rcases List.mem_cons.1 o with rfl|o
  ·exact hn
  exact HI.out.fit x (List.mem_of_mem_drop o)
theorem Tryz.egTests:∀args w,(callFunc 153 args).run prog w= .ok (.enter 153 args) w:=enters_of func153 (by kernel_rfl) rfl
def zCi(n:Int):Int:=if n=9223372036854775807 then-9223372036854775808 else n+1
theorem zNt{n:Int}(h:I64 n):I64 (zCi n):=by
 unfold zCi;have a:=h.1;have b:=h.2;split
 ·constructor<;>omega
 constructor<;>omega
theorem zSq:wrap64 9223372036854775808= -9223372036854775808:=by decide+kernel
mutual
def zDV(nm:ByteArray)(lo hi:Int):Fm->List Int->List Int
 | .mk op n _ nu kids,l=>zBC nm lo hi kids (if op=3/\n=nm then zBx (zBx l nu lo hi) (zCi nu) lo hi else l)
def zBC(nm:ByteArray)(lo hi:Int):List Fm->List Int->List Int
 |[],l=>l
 |k::r,l=>zBC nm lo hi r (zDV nm lo hi k l)
end
theorem zF3(l:List Int)(n lo hi:Int):(zBx l n lo hi).length <=l.length+1:=by
 have b:∀(l:List Int)(n:Int),(zCp l n).length <=l.length+1:=by
  intro l n
  induction l with
  |nil=>simp[zCp]
  |cons a r ih=>unfold zCp;split<;>(try split)<;>simp<;>omega
 unfold zBx;split
 ·omega
 exact b l n
theorem zGV(n lo hi:Int)(h:l≠[]):zBx l n lo hi≠[]:=by
 unfold zBx;split
 ·exact h
 cases l with
 |nil=>exact absurd rfl h
 |cons a r=>unfold zCp;split<;>(try split)<;>simp
mutual
theorem zLC(nm:ByteArray)(lo hi:Int):∀(f:Fm)(l:List Int),(zDV nm lo hi f l).length <=l.length+2*zH f/\(l≠[]->zDV nm lo hi f l≠[])
 | .mk op n cm nu kids,l=>by
  rw[zDV,zH];have c:=zF3 l nu lo hi;have d:=zF3 (zBx l nu lo hi) (zCi nu) lo hi;split
  ·obtain⟨b,a⟩:=zDN nm lo hi kids (zBx (zBx l nu lo hi) (zCi nu) lo hi);exact⟨by omega,λh=>a (zGV _ _ _ (zGV _ _ _ h))⟩
  obtain⟨b,a⟩:=zDN nm lo hi kids l;exact⟨by omega,a⟩
theorem zDN(nm:ByteArray)(lo hi:Int):∀(r:List Fm)(l:List Int),(zBC nm lo hi r l).length <=l.length+2*zV r/\(l≠[]->zBC nm lo hi r l≠[])
 |[],l=>by rw[zBC,zV];exact⟨by omega,λh=>h⟩
 |k::r,l=>by
  rw[zBC,zV];obtain⟨c,a⟩:=zLC nm lo hi k l;obtain⟨d,b⟩:=zDN nm lo hi r (zDV nm lo hi k l);exact⟨by omega,λh=>b (a h)⟩
end
theorem zEE(nm:ByteArray)(lo hi:Int):∀(l:List Fm)(k:Nat)(b:k<l.length)(xs:List Int),zBC nm lo hi (l.take (k+1)) xs=zDV nm lo hi l[k] (zBC nm lo hi (l.take k) xs)
 |a::r,0,_,xs=>by simp[zBC]
 |a::r,k+1,b,xs=>by
  have:=zEE nm lo hi r k (by simpa using b) (zDV nm lo hi a xs);simp only[List.take_succ_cons,zBC,List.getElem_cons_succ];exact this
theorem zNu(nm:ByteArray)(lo hi:Int):∀(m:Nat)(f:Fm),zH f<=m->∀(Z Zl:zD)(cs:List Value)(vl:Value)(l:List Int)(w:World),FmR Z w f cs->zO Zl w vl l->l≠[]->l.length+2*zH f<=1000000->
  Calls prog 153 #[.agg cs.toArray,.string nm,.int .i64 lo,.int .i64 hi,vl] w λe w'=>∃v',e= .returned v'/\zO (λb=>Zl b\/w.heap.size<=b) w' v' (zDV nm lo hi f l)/\Bw w w':=by
 intro m
 induction m with
 |zero=>intro f hm;have:=zCH f;omega
 |succ m ih=>
 intro f hm Z Zl cs vl l w hf hl ak aq;have eg:=Tryz.egTests;have IH:=hid ih;clear ih;have HU:=hid (show zDV nm lo hi f l=zBC nm lo hi f.kids (if f.op=3/\f.name=nm then zBx (zBx l f.num lo hi) (zCi f.num) lo hi else l) from by cases f;rw[zDV];rfl);have az:=zCQ f;have P:I64 f.num:=by cases f;unfold FmR at hf;exact hf.2.2.2.1
 obtain⟨A,v,rfl⟩:=FmR.form hf;have a0:zAW (λcs f=>FmR Z w f cs) 5 Z w f.kids A:=by cases f;unfold FmR at hf;obtain⟨_,_,_,_,A',ai,e,_,_,_,h⟩:=hf;injection e with _ e;injection e with _ e;injection e with _ e;injection e with _ e;injection e with e;injection e with e;subst e;exact zAD.seq h
 have a1:f.kids.length<=1000000:=by have:=zCA f.kids;omega
 have HS:=hid a0;have HM:=hid (And.intro hm (And.intro aq az));have HL:=hid hl;have I:=zG w (.cells #[.int .i64 f.op,.string f.name,.int .i64 f.cmp,.int .i64 f.num,.slice A f.kids.length v] 52);have a:=Blk.new w 52 #[.int .i64 f.op,.string f.name,.int .i64 f.cmp,.int .i64 f.num,.slice A f.kids.length v];have a4:w.heap.size<(w.alloc (.cells #[.int .i64 f.op,.string f.name,.int .i64 f.cmp,.int .i64 f.num,.slice A f.kids.length v] 52)).heap.size :=by simp
 have n:=hid (And.intro I a);clear hf a0 hl I a hm aq az;go_enter func153,ntmps153
 by_cases hc:f.op=3/\f.name=nm
 ·have HR:=hid (HU.out.trans (by rw[if_pos hc]));have e1:(f.op==(3:Int))=true:=by simp[hc.1]
  have e2:(f.name.toList==nm.toList)=true:=by rw[zBK];simp[hc.2]
  clear hc HU;by_cases aj:f.num=9223372036854775807
  ·(have ao:zCi f.num= -9223372036854775808:=by unfold zCi;rw[if_pos aj]);have au:=hid ao;have ay:=hid aj;clear aj ao;have b0:(w.alloc (.cells #[.int .i64 f.op,.string f.name,.int .i64 f.cmp,.int .i64 f.num,.slice A f.kids.length v] 52)).cell? ⟨w.heap.size,0,none⟩=some (.int .i64 f.op):=n.out.2.cell 0;have b1:(w.alloc (.cells #[.int .i64 f.op,.string f.name,.int .i64 f.cmp,.int .i64 f.num,.slice A f.kids.length v] 52)).cell? ⟨w.heap.size,1,none⟩=some (.string f.name):=n.out.2.cell 1;have b3:(w.alloc (.cells #[.int .i64 f.op,.string f.name,.int .i64 f.cmp,.int .i64 f.num,.slice A f.kids.length v] 52)).cell? ⟨w.heap.size,3,none⟩=some (.int .i64 f.num):=n.out.2.cell 3;have al:=hid (zGM Zl vl l f.num lo hi _ (HL.out.keep (zA.of_below n.out.1)) ak (by have:=HM.out;omega) P);(go_wp2_with fail);refine al.out.mono ?_;rintro e w1 ⟨v1,rfl,T,s⟩;have ap:=n.out.2.below s n.out.2.lt;have R:=n.out.1.trans (s.mono n.out.1.size);have V:=zF3 l f.num lo hi;have J:=zGV f.num lo hi ak
   have N:zO (λb=>Zl b\/w.heap.size<=b) w1 v1 (zBx l f.num lo hi):=T.mono λb q=>by
    rcases q with q|q
    ·exact Or.inl q
    exact Or.inr (by omega)
   have Y:=hid (zGM _ v1 (zBx l f.num lo hi) (zCi f.num) lo hi w1 N J (by have:=HM.out;omega) (zNt P));rw[show(#[v1,.int .i64 (zCi f.num),.int .i64 lo,.int .i64 hi]:Array Value)=#[v1,.int .i64 (wrap64 9223372036854775808),.int .i64 lo,.int .i64 hi] from by rw[au.out,zSq]]at Y;have D:=hid (And.intro R (And.intro ap (And.intro V J)));clear b0 b1 b3 T N s ap R al;have b3:=D.out.2.1.at3;have av:=D.out.2.1.lt;rw[ay.out]at b3;(go_wp2_with fail);refine Y.out.mono ?_;rintro e w2 ⟨O,rfl,U,aa⟩;have a:=D.out.2.1.below aa D.out.2.1.lt;have I:=D.out.1.trans (aa.mono D.out.1.size)
   have d:zO (λb=>Zl b\/w.heap.size<=b) w2 O (zBx (zBx l f.num lo hi) (zCi f.num) lo hi):=U.mono λb q=>by
    have:=D.out.1.size;rcases q with q|q
    ·exact q
    exact Or.inr (by omega)
   have x:=zGV (zCi f.num) lo hi J;(have i:(zBx (zBx l f.num lo hi) (zCi f.num) lo hi).length <=l.length+2:=by have:=zF3 (zBx l f.num lo hi) (zCi f.num) lo hi;omega);clear U aa Y b3 av V J;generalize zBx (zBx l f.num lo hi) (zCi f.num) lo hi=H at*;have W:=hid I;have ad:=a.cell 4;have ac:=a.lt;have C:=hid (And.intro d (And.intro x i));have L:=hid a;have b4:=a.at4;clear I a d x i ad;go_wp2;clear b4 ac;go_loopw[4,11] (λvv ix wr=>∃(k:Nat)(O:Value),k<=f.kids.length/\ix= .int .i64 k/\O=vv/\zO (λb=>Zl b\/w.heap.size<=b) wr O (zBC nm lo hi (f.kids.take k) H)/\Bw w wr/\Blk wr w.heap.size 52 #[.int .i64 f.op,.string f.name,.int .i64 f.cmp,.int .i64 f.num,.slice A f.kids.length v]) (λ_ ix _=>f.kids.length-(intOf ix).toNat);case atStart=>exact⟨0,_,Nat.zero_le _,rfl,rfl,C.out.1,W.out,L.out⟩
   case round=>
    obtain⟨k,O,hk,rfl,rfl,t,c,a⟩:=hrel;have b4:=a.at4;have aw:=a.lt;have K:=hid (And.intro c a);by_cases y:k<f.kids.length
    ·obtain⟨b',ah,cs,rfl,hz,M,E⟩:=HS.out.at_ y;have F:zA Z w wr:= .of_below c;have z:=FmR.keep F _ _ E;obtain⟨A',ai,rfl⟩:=FmR.form E;have ae:=zBz y;obtain⟨c0,c1,c2,c3,c4⟩:=zAL (λj u hu=>F.cell (p:=⟨b',ah+k*5+j,none⟩) hz (M j u hu));have cl:=lt_of_cell c0;have ag:=zBX y;have af:=zB3 f.kids (k+1);have G:=zDN nm lo hi (f.kids.take k) H;have o:=hid (IH.out f.kids[k] (by have:=HM.out;omega) Z _ _ O (zBC nm lo hi (f.kids.take k) H) wr z t (G.2 C.out.2.1) (by have h1:=HM.out;have h2:=C.out.2.2;have h3:=G.1;omega));rw[<-zEE nm lo hi f.kids k y H]at o;(have ax:((k:Nat):Int)<(f.kids.length:Int):=by omega);clear t M E z F ae a c ag af G;generalize f.kids[k]=g at*;(go_wp2_with fail);refine o.out.mono ?_;rintro e w1 ⟨v3,rfl,B,s⟩;have hx:=K.out.2.below s K.out.2.lt;have ab:=K.out.1.trans (s.mono K.out.1.size)
     have H3:=hid (show zO (λb=>Zl b\/w.heap.size<=b) w1 v3 (zBC nm lo hi (f.kids.take (k+1)) H) from B.mono λb q=>by
      rcases q with q|q
      ·exact q
      exact Or.inr (Nat.le_trans K.out.1.size q))
     clear s B;go_wp2;go_roundw;(case rel=>exact⟨k+1,v3,by omega,by go_num,rfl,H3.out,ab,hx⟩);case measure=>simp[intOf];omega
    (obtain rfl:k=f.kids.length:=by omega);rw[List.take_length]at t;have X:=hid t;clear t c a;go_wp2;go_ret;rw[HR.out];exact⟨_,rfl,X.out,K.out.1⟩
  have ao:zCi f.num=f.num+1:=by unfold zCi;rw[if_neg aj]
  have au:=hid ao;clear ao;have a2:=P.1;have a3:=P.2;have b0:(w.alloc (.cells #[.int .i64 f.op,.string f.name,.int .i64 f.cmp,.int .i64 f.num,.slice A f.kids.length v] 52)).cell? ⟨w.heap.size,0,none⟩=some (.int .i64 f.op):=n.out.2.cell 0;have b1:(w.alloc (.cells #[.int .i64 f.op,.string f.name,.int .i64 f.cmp,.int .i64 f.num,.slice A f.kids.length v] 52)).cell? ⟨w.heap.size,1,none⟩=some (.string f.name):=n.out.2.cell 1;have b3:(w.alloc (.cells #[.int .i64 f.op,.string f.name,.int .i64 f.cmp,.int .i64 f.num,.slice A f.kids.length v] 52)).cell? ⟨w.heap.size,3,none⟩=some (.int .i64 f.num):=n.out.2.cell 3;have al:=hid (zGM Zl vl l f.num lo hi _ (HL.out.keep (zA.of_below n.out.1)) ak (by have:=HM.out;omega) P);go_wp2_with fail
  refine al.out.mono ?_;rintro e w1 ⟨v1,rfl,T,s⟩;have ap:=n.out.2.below s n.out.2.lt;have R:=n.out.1.trans (s.mono n.out.1.size);have V:=zF3 l f.num lo hi;have J:=zGV f.num lo hi ak
  have N:zO (λb=>Zl b\/w.heap.size<=b) w1 v1 (zBx l f.num lo hi):=T.mono λb q=>by
   rcases q with q|q
   ·exact Or.inl q
   exact Or.inr (by omega)
  have Y:=hid (zGM _ v1 (zBx l f.num lo hi) (zCi f.num) lo hi w1 N J (by have:=HM.out;omega) (zNt P));rw[show(#[v1,.int .i64 (zCi f.num),.int .i64 lo,.int .i64 hi]:Array Value)=#[v1,.int .i64 (f.num+1),.int .i64 lo,.int .i64 hi] from by rw[au.out]]at Y;have D:=hid (And.intro R (And.intro ap (And.intro V J)));clear b0 b1 b3 T N s ap R al;have b3:=D.out.2.1.at3;have av:=D.out.2.1.lt;go_wp2_with fail
  refine Y.out.mono ?_;rintro e w2 ⟨O,rfl,U,aa⟩;have a:=D.out.2.1.below aa D.out.2.1.lt;have I:=D.out.1.trans (aa.mono D.out.1.size)
  have d:zO (λb=>Zl b\/w.heap.size<=b) w2 O (zBx (zBx l f.num lo hi) (zCi f.num) lo hi):=U.mono λb q=>by
   have:=D.out.1.size;rcases q with q|q
   ·exact q
   exact Or.inr (by omega)
  have x:=zGV (zCi f.num) lo hi J;have i:(zBx (zBx l f.num lo hi) (zCi f.num) lo hi).length <=l.length+2:=by have:=zF3 (zBx l f.num lo hi) (zCi f.num) lo hi;omega
  clear U aa Y b3 av V J;generalize zBx (zBx l f.num lo hi) (zCi f.num) lo hi=H at*;have W:=hid I;have ad:=a.cell 4;have ac:=a.lt;have C:=hid (And.intro d (And.intro x i));have L:=hid a;have b4:=a.at4;clear I a d x i ad;go_wp2;clear b4 ac;go_loopw[4,11] (λvv ix wr=>∃(k:Nat)(O:Value),k<=f.kids.length/\ix= .int .i64 k/\O=vv/\zO (λb=>Zl b\/w.heap.size<=b) wr O (zBC nm lo hi (f.kids.take k) H)/\Bw w wr/\Blk wr w.heap.size 52 #[.int .i64 f.op,.string f.name,.int .i64 f.cmp,.int .i64 f.num,.slice A f.kids.length v]) (λ_ ix _=>f.kids.length-(intOf ix).toNat);case atStart=>exact⟨0,_,Nat.zero_le _,rfl,rfl,C.out.1,W.out,L.out⟩
  case round=>
   obtain⟨k,O,hk,rfl,rfl,t,c,a⟩:=hrel;have b4:=a.at4;have aw:=a.lt;have K:=hid (And.intro c a);by_cases y:k<f.kids.length
   ·obtain⟨b',ah,cs,rfl,hz,M,E⟩:=HS.out.at_ y;have F:zA Z w wr:= .of_below c;have z:=FmR.keep F _ _ E;obtain⟨A',ai,rfl⟩:=FmR.form E;have ae:=zBz y;obtain⟨c0,c1,c2,c3,c4⟩:=zAL (λj u hu=>F.cell (p:=⟨b',ah+k*5+j,none⟩) hz (M j u hu));have cl:=lt_of_cell c0;have ag:=zBX y;have af:=zB3 f.kids (k+1);have G:=zDN nm lo hi (f.kids.take k) H;have o:=hid (IH.out f.kids[k] (by have:=HM.out;omega) Z _ _ O (zBC nm lo hi (f.kids.take k) H) wr z t (G.2 C.out.2.1) (by have h1:=HM.out;have h2:=C.out.2.2;have h3:=G.1;omega));rw[<-zEE nm lo hi f.kids k y H]at o;(have ax:((k:Nat):Int)<(f.kids.length:Int):=by omega);clear t M E z F ae a c ag af G;generalize f.kids[k]=g at*;(go_wp2_with fail);refine o.out.mono ?_;rintro e w1 ⟨v3,rfl,B,s⟩;have hx:=K.out.2.below s K.out.2.lt;have ab:=K.out.1.trans (s.mono K.out.1.size)
    have H3:=hid (show zO (λb=>Zl b\/w.heap.size<=b) w1 v3 (zBC nm lo hi (f.kids.take (k+1)) H) from B.mono λb q=>by
     rcases q with q|q
     ·exact q
     exact Or.inr (Nat.le_trans K.out.1.size q))
    clear s B;go_wp2;go_roundw;(case rel=>exact⟨k+1,v3,by omega,by go_num,rfl,H3.out,ab,hx⟩);case measure=>simp[intOf];omega
   (obtain rfl:k=f.kids.length:=by omega);rw[List.take_length]at t;have X:=hid t;clear t c a;go_wp2;go_ret;rw[HR.out];exact⟨_,rfl,X.out,K.out.1⟩
 have HR:=hid (HU.out.trans (by rw[if_neg hc]));by_cases h3:f.op=3
 ·have e1:(f.op==(3:Int))=true:=by simp[h3]
  have e2:(f.name.toList==nm.toList)=false:=by rw[zBK];simp;exact λe=>hc ⟨h3,e⟩
  clear hc h3 HU;have b0:(w.alloc (.cells #[.int .i64 f.op,.string f.name,.int .i64 f.cmp,.int .i64 f.num,.slice A f.kids.length v] 52)).cell? ⟨w.heap.size,0,none⟩=some (.int .i64 f.op):=n.out.2.cell 0;have b1:(w.alloc (.cells #[.int .i64 f.op,.string f.name,.int .i64 f.cmp,.int .i64 f.num,.slice A f.kids.length v] 52)).cell? ⟨w.heap.size,1,none⟩=some (.string f.name):=n.out.2.cell 1;have d:=(HL.out.keep (zA.of_below n.out.1)).mono (λb q=>Or.inl q:∀b,Zl b->Zl b\/w.heap.size<=b);have I:=n.out.1;have a:=n.out.2;have x:=ak;have i:l.length<=l.length+2:=by omega
  obtain⟨H,Q⟩:∃H,H=l:=⟨l,rfl⟩;rw[<-Q]at d x;have ar:=hid (show zDV nm lo hi f l=zBC nm lo hi f.kids H from by rw[Q];exact HR.out);clear HR;have HR:=ar;have i:H.length<=l.length+2:=by rw[Q];omega
  clear Q;have W:=hid I;have ad:=a.cell 4;have ac:=a.lt;have C:=hid (And.intro d (And.intro x i));have L:=hid a;have b4:(w.alloc (.cells #[.int .i64 f.op,.string f.name,.int .i64 f.cmp,.int .i64 f.num,.slice A f.kids.length v] 52)).cell? ⟨w.heap.size,4,none⟩=some (.slice A f.kids.length v):=a.cell 4;clear I a d x i ad;go_wp2;clear b4 ac;go_loopw[4,11] (λvv ix wr=>∃(k:Nat)(O:Value),k<=f.kids.length/\ix= .int .i64 k/\O=vv/\zO (λb=>Zl b\/w.heap.size<=b) wr O (zBC nm lo hi (f.kids.take k) H)/\Bw w wr/\Blk wr w.heap.size 52 #[.int .i64 f.op,.string f.name,.int .i64 f.cmp,.int .i64 f.num,.slice A f.kids.length v]) (λ_ ix _=>f.kids.length-(intOf ix).toNat);case atStart=>exact⟨0,_,Nat.zero_le _,rfl,rfl,C.out.1,W.out,L.out⟩
  case round=>
   obtain⟨k,O,hk,rfl,rfl,t,c,a⟩:=hrel;have b4:=a.at4;have aw:=a.lt;have K:=hid (And.intro c a);by_cases y:k<f.kids.length
   ·obtain⟨b',ah,cs,rfl,hz,M,E⟩:=HS.out.at_ y;have F:zA Z w wr:= .of_below c;have z:=FmR.keep F _ _ E;obtain⟨A',ai,rfl⟩:=FmR.form E;have ae:=zBz y;obtain⟨c0,c1,c2,c3,c4⟩:=zAL (λj u hu=>F.cell (p:=⟨b',ah+k*5+j,none⟩) hz (M j u hu));have cl:=lt_of_cell c0;have ag:=zBX y;have af:=zB3 f.kids (k+1);have G:=zDN nm lo hi (f.kids.take k) H;have o:=hid (IH.out f.kids[k] (by have:=HM.out;omega) Z _ _ O (zBC nm lo hi (f.kids.take k) H) wr z t (G.2 C.out.2.1) (by have h1:=HM.out;have h2:=C.out.2.2;have h3:=G.1;omega));rw[<-zEE nm lo hi f.kids k y H]at o;(have ax:((k:Nat):Int)<(f.kids.length:Int):=by omega);clear t M E z F ae a c ag af G;generalize f.kids[k]=g at*;(go_wp2_with fail);refine o.out.mono ?_;rintro e w1 ⟨v3,rfl,B,s⟩;have hx:=K.out.2.below s K.out.2.lt;have ab:=K.out.1.trans (s.mono K.out.1.size)
    have H3:=hid (show zO (λb=>Zl b\/w.heap.size<=b) w1 v3 (zBC nm lo hi (f.kids.take (k+1)) H) from B.mono λb q=>by
     rcases q with q|q
     ·exact q
     exact Or.inr (Nat.le_trans K.out.1.size q))
    clear s B;go_wp2;go_roundw;(case rel=>exact⟨k+1,v3,by omega,by go_num,rfl,H3.out,ab,hx⟩);case measure=>simp[intOf];omega
   (obtain rfl:k=f.kids.length:=by omega);rw[List.take_length]at t;have X:=hid t;clear t c a;go_wp2;go_ret;rw[HR.out];exact⟨_,rfl,X.out,K.out.1⟩
 have e1:(f.op==(3:Int))=false:=by simp[h3]
 clear hc h3 HU;have b0:(w.alloc (.cells #[.int .i64 f.op,.string f.name,.int .i64 f.cmp,.int .i64 f.num,.slice A f.kids.length v] 52)).cell? ⟨w.heap.size,0,none⟩=some (.int .i64 f.op):=n.out.2.cell 0;have b1:(w.alloc (.cells #[.int .i64 f.op,.string f.name,.int .i64 f.cmp,.int .i64 f.num,.slice A f.kids.length v] 52)).cell? ⟨w.heap.size,1,none⟩=some (.string f.name):=n.out.2.cell 1;have d:=(HL.out.keep (zA.of_below n.out.1)).mono (λb q=>Or.inl q:∀b,Zl b->Zl b\/w.heap.size<=b);have I:=n.out.1;have a:=n.out.2;have x:=ak;have i:l.length<=l.length+2:=by omega
 obtain⟨H,Q⟩:∃H,H=l:=⟨l,rfl⟩;rw[<-Q]at d x;have ar:=hid (show zDV nm lo hi f l=zBC nm lo hi f.kids H from by rw[Q];exact HR.out);clear HR;have HR:=ar;have i:H.length<=l.length+2:=by rw[Q];omega
 clear Q;have W:=hid I;have ad:=a.cell 4;have ac:=a.lt;have C:=hid (And.intro d (And.intro x i));have L:=hid a;have b4:(w.alloc (.cells #[.int .i64 f.op,.string f.name,.int .i64 f.cmp,.int .i64 f.num,.slice A f.kids.length v] 52)).cell? ⟨w.heap.size,4,none⟩=some (.slice A f.kids.length v):=a.cell 4;clear I a d x i ad;go_wp2;clear b4 ac;go_loopw[4,11] (λvv ix wr=>∃(k:Nat)(O:Value),k<=f.kids.length/\ix= .int .i64 k/\O=vv/\zO (λb=>Zl b\/w.heap.size<=b) wr O (zBC nm lo hi (f.kids.take k) H)/\Bw w wr/\Blk wr w.heap.size 52 #[.int .i64 f.op,.string f.name,.int .i64 f.cmp,.int .i64 f.num,.slice A f.kids.length v]) (λ_ ix _=>f.kids.length-(intOf ix).toNat);case atStart=>exact⟨0,_,Nat.zero_le _,rfl,rfl,C.out.1,W.out,L.out⟩
 case round=>
  obtain⟨k,O,hk,rfl,rfl,t,c,a⟩:=hrel;have b4:=a.at4;have aw:=a.lt;have K:=hid (And.intro c a);by_cases y:k<f.kids.length
  ·obtain⟨b',ah,cs,rfl,hz,M,E⟩:=HS.out.at_ y;have F:zA Z w wr:= .of_below c;have z:=FmR.keep F _ _ E;obtain⟨A',ai,rfl⟩:=FmR.form E;have ae:=zBz y;obtain⟨c0,c1,c2,c3,c4⟩:=zAL (λj u hu=>F.cell (p:=⟨b',ah+k*5+j,none⟩) hz (M j u hu));have cl:=lt_of_cell c0;have ag:=zBX y;have af:=zB3 f.kids (k+1);have G:=zDN nm lo hi (f.kids.take k) H;have o:=hid (IH.out f.kids[k] (by have:=HM.out;omega) Z _ _ O (zBC nm lo hi (f.kids.take k) H) wr z t (G.2 C.out.2.1) (by have h1:=HM.out;have h2:=C.out.2.2;have h3:=G.1;omega));rw[<-zEE nm lo hi f.kids k y H]at o;(have ax:((k:Nat):Int)<(f.kids.length:Int):=by omega);clear t M E z F ae a c ag af G;generalize f.kids[k]=g at*;(go_wp2_with fail);refine o.out.mono ?_;rintro e w1 ⟨v3,rfl,B,s⟩;have hx:=K.out.2.below s K.out.2.lt;have ab:=K.out.1.trans (s.mono K.out.1.size)
   have H3:=hid (show zO (λb=>Zl b\/w.heap.size<=b) w1 v3 (zBC nm lo hi (f.kids.take (k+1)) H) from B.mono λb q=>by
    rcases q with q|q
    ·exact q
    exact Or.inr (Nat.le_trans K.out.1.size q))
   clear s B;go_wp2;go_roundw;(case rel=>exact⟨k+1,v3,by omega,by go_num,rfl,H3.out,ab,hx⟩);case measure=>simp[intOf];omega
  obtain rfl:k=f.kids.length:=by omega
  rw[List.take_length]at t;have X:=hid t;clear t c a;go_wp2;go_ret;rw[HR.out];exact⟨_,rfl,X.out,K.out.1⟩
def zDW(f:Fm)(x:zE):List Int:=zDV x.name x.lo x.hi f [x.lo]
theorem zOp(f:Fm)(x:zE):1<=(zDW f x).length /\(zDW f x).length <=1+2*zH f:=by
 obtain⟨a,b⟩:=zLC x.name x.lo x.hi f [x.lo];have:=List.length_pos_iff.2 (b (by simp));unfold zDW;simp at a;omega
theorem zMw(Z:zD)(f:Fm)(x:zE)(cs:List Value)(w:World)(o:FmR Z w f cs)(B:zH f<=1000)(v:x.fit):
  Calls prog 100 #[.agg cs.toArray,.agg #[.string x.name,.int .i64 x.kind,.int .i64 x.lo,.int .i64 x.hi]] w λe w'=>∃s,e= .returned s/\zO (λb=>w.heap.size<=b) w' s (zDW f x)/\Bw w w':=by
 obtain⟨A,h,rfl⟩:=FmR.form o;have d:=((zG w (.cells #[.int .i64 f.op,.string f.name,.int .i64 f.cmp,.int .i64 f.num,.slice A f.kids.length h] 52)).alloc (by simp) (.cells #[.string x.name,.int .i64 x.kind,.int .i64 x.lo,.int .i64 x.hi] 106)).alloc (by simp;omega) (.cells #[.int .i64 x.lo] 3);have c:=zEx (W:=((w.alloc (.cells #[.int .i64 f.op,.string f.name,.int .i64 f.cmp,.int .i64 f.num,.slice A f.kids.length h] 52)).alloc (.cells #[.string x.name,.int .i64 x.kind,.int .i64 x.lo,.int .i64 x.hi] 106)).alloc (.cells #[.int .i64 x.lo] 3)) (base:=w.heap.size) (g:=w.heap.size+1+1) (Blk.new' _ 3 #[.int .i64 x.lo] (by simp)) (by omega) (by simp[maxLen]);have k:=zO.of_own (xs:=[x.lo]) c (λy q=>by simp at q;subst q;exact v.2.2.1) (by simp);have t:=hid (zNu x.name x.lo x.hi (zH f) f (Nat.le_refl _) Z _ _ _ [x.lo] _ (FmR.keep (.of_below d) _ _ o) k (by simp) (by simp;omega));have m:=hid d;clear o d c k;go_enter func100,ntmps100
 go_wp2_with fail
 refine t.out.mono ?_;rintro e z ⟨v1,rfl,a,j⟩;have n:=m.out.trans (j.mono m.out.size)
 have u:=hid (show zO (λb=>w.heap.size<=b) z v1 (zDW f x) from a.mono λb i=>by
  rcases i with i|i
  ·exact i
  exact Nat.le_trans m.out.size i)
 clear a j;go_wp2;go_ret;exact⟨_,rfl,u.out,n⟩
theorem zSr{q:Int}(a: -9223372036854775808<=q)(b:q<=9223372036854775807):IntKind.i64.wrap q=q:=by rw[IntKind.wrap_i64];omega
theorem zRj{a b A B:Int}(c:1<=a)(d:a<=A)(e:1<=b)(f:b<=B):1<=a*b/\a*b<=A*B:=by
 have g:=Int.mul_le_mul c e (by omega) (by omega);have h:=Int.mul_le_mul d f (by omega) (by omega);omega
def zEF(f:Fm)(n:Int):List zE->Int->Int
 |[],out=>out
 |x::r,out=>if n<out*(zDW f x).length then n+1 else zEF f n r (out*(zDW f x).length)
theorem zNv(Z Zd:zD)(f:Fm)(cs:List Value)(vd:Value)(ds:List zE)(n:Int)(w:World)(hf:FmR Z w f cs)(hd:Facts Zd w vd ds)(hs:zH f<=1000)(h0:1<=n)(h1:n<=1000000):
  Calls prog 56 #[.agg cs.toArray,.agg #[vd],.int .i64 n] w λe w'=>e= .returned (.int .i64 (zEF f n ds 1))/\Bw w w':=by
 have HF:=hid hf;obtain⟨A,v,rfl⟩:=FmR.form hf;obtain⟨D,g,rfl,Y,aa,E⟩:=hd.open_;have HD:=hid E;have b:=(Blk.new w 52 #[.int .i64 f.op,.string f.name,.int .i64 f.cmp,.int .i64 f.num,.slice A f.kids.length v]).alloc (.cells #[.slice D ds.length g] 25);have m:=Blk.new' (w.alloc (.cells #[.int .i64 f.op,.string f.name,.int .i64 f.cmp,.int .i64 f.num,.slice A f.kids.length v] 52)) 25 #[.slice D ds.length g] (n:=w.heap.size+1) (by simp);have N:=(zG w (.cells #[.int .i64 f.op,.string f.name,.int .i64 f.cmp,.int .i64 f.num,.slice A f.kids.length v] 52)).alloc (by simp) (.cells #[.slice D ds.length g] 25);have G:=hid (And.intro b (And.intro m N));clear hf hd E b m N;go_enter func56,ntmps56
 go_wp2;go_loopw[7,8] (λo i wr=>∃(k:Nat)(s:Int),k<=ds.length/\i= .int .i64 k/\o= .int .i64 s/\1<=s/\s<=n/\Blk wr w.heap.size 52 #[.int .i64 f.op,.string f.name,.int .i64 f.cmp,.int .i64 f.num,.slice A f.kids.length v]/\Blk wr (w.heap.size+1) 25 #[.slice D ds.length g]/\Bw w wr/\Hid (zEF f n ds 1=zEF f n (ds.drop k) s)) (λ_ i _=>ds.length-(intOf i).toNat);case atStart=>exact⟨0,1,Nat.zero_le _,rfl,rfl,by omega,h0,G.out.1,G.out.2.1,G.out.2.2,rfl⟩
 case round=>
  obtain⟨k,s,hk,rfl,rfl,ac,ai,b,m,c,u⟩:=hrel;have d0:=m.at0;have M:=m.lt;have L:=b.lt;have H:=hid (And.intro b (And.intro m c));by_cases Q:k<ds.length
  ·obtain⟨J,h,rfl,-,t,T,U,V,X,P⟩:=HD.out k Q;replace T:=brd c T t;replace U:=brd c U t;replace V:=brd c V t;replace X:=brd c X t;have B:=lt_of_cell T;have b0:=b.at0;have b1:=b.at1;have b2:=b.at2;have b3:=b.at3;have b4:=b.at4;have O:ds.drop k=ds[k]::ds.drop (k+1):=List.drop_eq_getElem_cons Q;have a:=u.out;rw[O,zEF]at a;have HC:=hid (λW(hW:Bw w W)=>zMw Z f ds[k] _ W (FmR.keep (.of_below hW) _ _ HF.out) hs P);have ae:=zOp f ds[k];(have ah:((k:Nat):Int)<(ds.length:Int):=by omega);(have ag:(0:Int)<=((k:Nat):Int):=by omega);have I:=hid a;clear u a O b m c;generalize ds[k]=x at*;go_wp2
   go_region_held3(λw'=>w'.cell? ⟨w.heap.size,0,none⟩=some (.int .i64 f.op)/\w'.cell? ⟨w.heap.size,1,none⟩=some (.string f.name)/\w'.cell? ⟨w.heap.size,2,none⟩=some (.int .i64 f.cmp)/\w'.cell? ⟨w.heap.size,3,none⟩=some (.int .i64 f.num)/\w'.cell? ⟨w.heap.size,4,none⟩=some (.slice A f.kids.length v)/\w'.cell? ⟨w.heap.size+1,0,none⟩=some (.slice (some ⟨J,h,none⟩) ds.length g)/\w'.cell? ⟨J,h+k*4,none⟩=some (.string x.name)/\w'.cell? ⟨J,h+k*4+1,none⟩=some (.int .i64 x.kind)/\w'.cell? ⟨J,h+k*4+2,none⟩=some (.int .i64 x.lo)/\w'.cell? ⟨J,h+k*4+3,none⟩=some (.int .i64 x.hi))
    (first|exact⟨p0,p1,p2,p3,p4,p5,p6,p7,p8,p9⟩|(refine⟨?_,?_,?_,?_,?_,?_,?_,?_,?_,?_⟩<;>go_keep))
    (first
     |(go_at_call 100;refine(HC.out _ H.out.2.2.drew).mono ?_;rintro e K ⟨v6,rfl,F,j⟩;obtain⟨A6,af,rfl,-⟩:=F.form;have d:=H.out.1.drew.below j L;have z:=H.out.2.1.drew.below j M;have p0:K.cell? ⟨w.heap.size,0,none⟩=some (.int .i64 f.op):=d.cell 0;have p1:K.cell? ⟨w.heap.size,1,none⟩=some (.string f.name):=d.cell 1;have p2:K.cell? ⟨w.heap.size,2,none⟩=some (.int .i64 f.cmp):=d.cell 2;have p3:K.cell? ⟨w.heap.size,3,none⟩=some (.int .i64 f.num):=d.cell 3;have p4:K.cell? ⟨w.heap.size,4,none⟩=some (.slice A f.kids.length v):=d.cell 4;have p5:K.cell? ⟨w.heap.size+1,0,none⟩=some (.slice (some ⟨J,h,none⟩) ds.length g):=z.cell 0;have p6:=brd j T B;have p7:=brd j U B;have p8:=brd j V B;have p9:=brd j X B))
   have ab:=zRj ac (show s<=1000000 by omega) (show(1:Int)<=((zDW f x).length :Int) by omega) (show((zDW f x).length :Int)<=2001 by omega);have C:=hid (And.intro d (And.intro z (H.out.2.2.drew.trans (j.mono H.out.2.2.size))));have R:=zSr (q:=s*((zDW f x).length :Int)) (by omega) (by omega);rw[R];clear R p0 p1 p2 p3 p4 p5 p6 p7 p8 p9 F j d z HC ae d0 M L b0 b1 b2 b3 b4 T U V X B;generalize s*((zDW f x).length :Int)=q at*;by_cases y:n<q
   ·rw[if_pos y]at I;(have e1:decide (n<q)=true:=by simpa using y);clear y;go_wp2;go_ret;rw[I.out];exact⟨rfl,C.out.2.2⟩
   rw[if_neg y]at I;(have e1:decide (n<q)=false:=by simpa using y);(have ad:q<=n:=by omega);clear y;go_wp2;go_roundw;(case rel=>exact⟨k+1,q,by omega,by go_num,rfl,ab.1,ad,C.out.1,C.out.2.1,C.out.2.2,I⟩);case measure=>simp[intOf];omega
  obtain rfl:k=ds.length:=by omega
  have a:=u.out;rw[List.drop_length,zEF]at a;have I:=hid a;clear u a b m c;go_wp2;go_ret;rw[I.out];exact⟨rfl,H.out.2.2⟩
def NAt(Z:zD)(w:World)(xs:List Value)(i:Nat)(n:zB):Prop:=
 ∃vc vk,xs[i*4]? =some (.bool n.leaf)/\xs[i*4+1]? =some (.int .i64 n.fact)/\xs[i*4+2]? =some vc/\xs[i*4+3]? =some vk/\I64 n.fact/\zO Z w vc n.cuts/\zO Z w vk n.kids
theorem NAt.keep{w w':World}(h:NAt Z w xs i n)(a:zA Z w w'):NAt Z w' xs i n:=by
 obtain⟨k,m,b,c,d,e,f,g,j⟩:=h;exact⟨k,m,b,c,d,e,f,g.keep a,j.keep a⟩
theorem NAt.mono{Z Z':zD}(a:∀b,Z b->Z' b)(h:NAt Z w xs i n):NAt Z' w xs i n:=by
 obtain⟨m,o,c,d,e,f,g,j,k⟩:=h;exact⟨m,o,c,d,e,f,g,j.mono a,k.mono a⟩
theorem zM1{Z:zD}{w:World}{b:Nat}:∀{l:List zB}{c:Nat},zAW (zAY Z w) 4 Z w l (some ⟨b,c,none⟩)->
  ∃xs:List Value,xs.length=l.length*4/\(∀u∈xs,u.oneCell'=true)/\(∀j u,xs[j]? =some u->w.cell? ⟨b,c+j,none⟩=some u)/\∀i(hi:i<l.length),NAt (λb=>Z b/\b<w.heap.size) w xs i l[i]
 |[],_,_=>⟨[],rfl,by simp,by simp,λi hi=>absurd hi (by simp)⟩
 |n::l,c,h=>by
  unfold zAW at h;obtain⟨M,q,O,e,P,B,F,G⟩:=h;injection e with e;injection e with e1 e2;subst e1 e2;obtain⟨xs,H,I,J,L⟩:=zM1 G;obtain⟨s,t,rfl,D,d,f⟩:=F;obtain⟨C,N,g,-⟩:=d.is;obtain⟨K,Q,k,-⟩:=f.is;refine⟨[.bool n.leaf,.int .i64 n.fact,s,t]++xs,by simp[H];omega,λu a=> ?_,λj u a=> ?_,λi hi=> ?_⟩
  ·rcases List.mem_append.1 a with a|a
   ·subst g k;simp only[List.mem_cons,List.not_mem_nil,or_false]at a;rcases a with rfl|rfl|rfl|rfl<;>rfl
   exact I u a
  ·by_cases E:j<4
   ·rw[List.getElem?_append_left (by simpa using E)]at a;exact B j u a
   rw[List.getElem?_append_right (by simp;omega)]at a;have:=J _ u a;simp only[List.length_cons,List.length_nil]at this;rwa[show c+4+(j-(0+1+1+1+1))=c+j by omega]at this
  cases i with
  |zero=>exact⟨s,t,rfl,rfl,rfl,rfl,D,d.live,f.live⟩
  |succ i=>
  obtain⟨m,o,v,x,y,z,A⟩:=L i (by simpa using hi);refine⟨m,o,?_,?_,?_,?_,A⟩;all_goals rw[List.getElem?_append_right (by simp;omega)]
  ·refine Eq.trans ?_ v;congr 1;simp only[List.length_cons,List.length_nil];omega
  ·refine Eq.trans ?_ x;congr 1;simp only[List.length_cons,List.length_nil];omega
  ·refine Eq.trans ?_ y;congr 1;simp only[List.length_cons,List.length_nil];omega
  refine Eq.trans ?_ z;congr 1;simp only[List.length_cons,List.length_nil];omega
theorem zRk{Z:zD}{w:World}{b:Nat}(d:Z b){xs:List Value}(c:∀j u,xs[j]? =some u->w.cell? ⟨b,j,none⟩=some u):∀(l:List zB)(k:Nat),(∀i(hi:i<l.length),NAt Z w xs (k+i) l[i])->
  zAW (zAY Z w) 4 Z w l (some ⟨b,k*4,none⟩)
 |[],_,_=>by unfold zAW;trivial
 |n::l,k,h=>by
  unfold zAW;obtain⟨e,f,g,m,o,q,s,t,v⟩:=h 0 (by simp);refine⟨b,k*4,[.bool n.leaf,.int .i64 n.fact,e,f],rfl,d,λj u a=> ?_,⟨e,f,rfl,s,t,v⟩,?_⟩
  ·match j,a with
   |0,a=>simp at a;subst a;exact c _ _ g
   |1,a=>simp at a;subst a;exact c _ _ m
   |2,a=>simp at a;subst a;exact c _ _ o
   |3,a=>simp at a;subst a;exact c _ _ q
   |j+4,a=>simp at a
  rw[show k*4+4=(k+1)*4 by omega]
  exact zRk d c l (k+1) λi hi=>by
   have:=h (i+1) (by simpa using hi);rwa[show k+(i+1)=k+1+i by omega]at this
theorem Tryz.nilN(w:World)(a:Option Addr)(n c d b:Nat):(binOp .eql 72 (.slice a n c) (.slice none d b)).run prog w= .ok (.bool a.isNone) w:=Lib.run_eql_slice_nil w _ _ a n c d b underlying72
theorem zQV(Z:zD)(v:Value)(g:List zB)(w:World)(h:zK Z w v g):
  Calls prog 66 #[v] w λe w'=>∃t xs,e= .returned t/\w'.ownsRow w.heap.size 123 4 t g.length xs/\Bw w w'/\∀i(hi:i<g.length),NAt (λb=>Z b/\b<w.heap.size) w xs i g[i]:=by
 obtain⟨A,C,rfl,Q,R,M,a⟩:=h;have q:=Tryz.nilN
 cases A with
 |none=>
  have N:g=[]:=by
   cases g with
   |nil=>rfl
   |cons n r=>unfold zAW at a;obtain⟨_,_,_,e,_⟩:=a;cases e
  subst N;clear a;go_enter func66,ntmps66
  go_wp2;go_ret;exact⟨_,[],rfl,World.ownsRow_nil _ _ _ _,Below.refl _ _,λi hi=>absurd hi (by simp)⟩
 |some p=>
 have L:∃xs:List Value,xs.length=g.length*4/\(∀u∈xs,u.oneCell'=true)/\(∀j u,xs[j]? =some u->w.cell? (p.add j)=some u)/\∀i(hi:i<g.length),NAt (λb=>Z b/\b<w.heap.size) w xs i g[i]:=by
  cases g with
  |nil=>exact⟨[],rfl,by simp,by simp,λi hi=>absurd hi (by simp)⟩
  |cons n r=>
  have K:=a;unfold zAW at K;obtain⟨b,s,_,e,_⟩:=K;injection e with e;subst e;obtain⟨xs,G,H,x,y⟩:=zM1 a;refine⟨xs,G,H,λj u E=> ?_,y⟩;rw[show(⟨b,s,none⟩:Addr).add j=⟨b,s+j,none⟩ from by unfold Addr.add;split<;>simp_all];exact x j u E
 obtain⟨xs,G,H,x,y⟩:=L;have z:=hid x;have B:=hid y;obtain⟨_,P,z0,D,F,m,d,o⟩:=Tryz.eNode;have I:=hid M;clear a x y;go_enter func66,ntmps66
 go_wp2_with(at_builtin;refine wpList_append_own _ rfl _ _ 72 rfl w.heap.size 123 P z0 4 64 underlying72 D F m d o (by decide) _ _ _ rfl (World.ownsRow_made w #[] 0 (Nat.le_refl _) (Nat.zero_le _) rfl) p g.length C xs rfl G (λj u E=>zD5 (z.out j u E) _) H (by have:=I.out;unfold maxLen;omega) (by have:=I.out;omega) (by simp) ?_);intro t T f c J;go_wp2;go_ret;refine⟨t,xs,rfl,by simpa using f,?_,B.out⟩;exact((Below.refl _ w).alloc (Nat.le_refl _) _).grown c (by simp) (by intro k O;simp[Value.ownBlock]at O;omega)
theorem zNw{Z:zD}{w:World}:∀{l:List zB}{A:Option Addr},zAW (zAY Z w) 4 Z w l A->zAW (zAY (λb=>Z b/\b<w.heap.size) w) 4 (λb=>Z b/\b<w.heap.size) w l A
 |[],_,_=>by unfold zAW;trivial
 |n::l,A,h=>by
  unfold zAW at h⊢;obtain⟨b,d,o,e,j,f,⟨k,m,rfl,g,a,c⟩,i⟩:=h;exact⟨b,d,_,e,⟨j,lt_of_cell (f 0 _ rfl)⟩,f,⟨k,m,rfl,g,a.live,c.live⟩,zNw i⟩
theorem zK.live{v:Value}(h:zK Z w v g):zK (λb=>Z b/\b<w.heap.size) w v g:=by
 obtain⟨A,a,rfl,c,d,e,f⟩:=h;exact⟨A,a,rfl,c,d,e,zNw f⟩
theorem zTf{a g n cap:Nat}(h:w.ownsRow base e a (.slice (some ⟨g,0,none⟩) n cap) n xs)(j:Nat)(u:Value):
  (w.setCell ⟨g,j,none⟩ u).ownsRow base e a (.slice (some ⟨g,0,none⟩) n cap) n (xs.set j u):=by
 refine⟨by simpa using h.1,?_⟩;rcases h.2 with⟨h,_⟩|⟨g',cap',cur,e',hb,hg,h1,h2,h3,h4⟩
 ·cases h
 injection e' with e1 e2 e3;injection e1 with e1;injection e1 with e1;subst e1 e3;refine Or.inr ⟨g,cap,cur.setIfInBounds j u,rfl,hb,?_,h1,h2,by simpa using h3,?_⟩
 ·have:Blk w g e cur:=hg;exact this.set_ j u
 rw[<-h4];simp only[Array.toList_setIfInBounds,List.take_set]
theorem zSs{a g n cap:Nat}(h:w.ownsRow base e a (.slice (some ⟨g,0,none⟩) n cap) n xs)(j:Nat):w.frozen? ⟨g,j,none⟩=false:=by
 rcases h.2 with⟨h,_⟩|⟨g',cap',cur,e',hb,hg,_⟩
 ·cases h
 injection e' with e1;injection e1 with e1;injection e1 with e1;subst e1;exact(show Blk w g e cur from hg).frozen j
theorem zJB{a g n cap:Nat}(h:w.ownsRow base e a (.slice (some ⟨g,0,none⟩) n cap) n xs){j:Nat}{u:Value}(b:xs[j]? =some u):w.cell? ⟨g,j,none⟩=some u:=by
 have:=h.cells (g:=g) rfl j u b;rwa[show(⟨g,0,none⟩:Addr).add j=⟨g,j,none⟩ from by unfold Addr.add;split<;>simp_all]at this
theorem NAt.leaf(h:NAt Z w xs k n)(f:n.kids=[]):NAt Z w (xs.set (k*4) (.bool !n.leaf)) k (zCz n):=by
 obtain⟨i,j,a,b,c,d,e⟩:=h;have g:k*4<xs.length:=(List.getElem?_eq_some_iff.1 a).1;unfold zCz;rw[if_pos f];refine⟨i,j,?_,?_,?_,?_,e⟩
 ·rw[List.getElem?_set_self g]
 ·rw[List.getElem?_set_ne (by omega)];exact b
 ·rw[List.getElem?_set_ne (by omega)];exact c
 rw[List.getElem?_set_ne (by omega)];exact d
theorem NAt.far{u:Value}(h:NAt Z w xs i n)(j:k≠i):NAt Z w (xs.set (k*4) u) i n:=by
 obtain⟨f,g,a,b,c,d,e⟩:=h;refine⟨f,g,?_,?_,?_,?_,e⟩
 ·rw[List.getElem?_set_ne (by omega)];exact a
 ·rw[List.getElem?_set_ne (by omega)];exact b
 ·rw[List.getElem?_set_ne (by omega)];exact c
 rw[List.getElem?_set_ne (by omega)];exact d
def zLk(g:List zB)(k i:Nat):zB:=if i<k then zCz (g.getD i zB9)else g.getD i zB9
structure zF4 (Z:zD) (w u wr:World) (g:List zB) (v1:Value) (G k:Nat):Prop where
 row:∃ys,wr.ownsRow (w.heap.size+1+1) 123 4 v1 g.length ys/\∀i,i<g.length->NAt Z u ys i (zLk g k i)
 box:Blk wr G 74 #[v1]
 far:v1.ownBlock≠some G
 lim:w.heap.size+1+1<=G
 out:Blk wr (w.heap.size+1) 74 #[.slice none 0 0]
 bel:Bw w wr
 bu:Below w.heap.size u wr
theorem zF4.alloc(h:zF4 Z w u wr g v1 G k)(o:Obj):zF4 Z w u (wr.alloc o) g v1 G k:=by
 obtain⟨c,a,b⟩:=h.row;exact⟨⟨c,a.alloc o,b⟩,h.box.alloc o,h.far,h.lim,h.out.alloc o,h.bel.trans ((zG wr o).mono h.bel.size),h.bu.alloc h.bel.size o⟩
theorem zF4.stay(h:zF4 Z w u wr g v1 G k)(f:(g.getD k zB9).kids ≠[]):zF4 Z w u wr g v1 G (k+1):=by
 obtain⟨j,b,c⟩:=h.row;refine⟨⟨j,b,λi d=> ?_⟩,h.box,h.far,h.lim,h.out,h.bel,h.bu⟩;have:=c i d;unfold zLk at this⊢;by_cases e:i=k
 ·subst e;rw[if_neg (by omega)]at this;rw[if_pos (by omega)];unfold zCz;rwa[if_neg f]
 by_cases a:i<k
 ·rw[if_pos a]at this;rwa[if_pos (by omega)]
 rw[if_neg a]at this;rwa[if_neg (by omega)]
theorem zF4.turn{a cap G k:Nat}(h:zF4 Z w u wr g (.slice (some ⟨a,0,none⟩) g.length cap) G k)(o:k<g.length)(n:(g.getD k zB9).kids =[]):
  zF4 Z w u (wr.setCell ⟨a,k*4,none⟩ (.bool !(g.getD k zB9).leaf)) g (.slice (some ⟨a,0,none⟩) g.length cap) G (k+1):=by
 obtain⟨q,d,f⟩:=h.row;have j:=(d.lt a rfl).1;have c:a≠G:=λe=>h.far (by rw[e];rfl)
 refine⟨⟨_,zTf d _ _,λi m=> ?_⟩,h.box.far (Ne.symm c) _,h.far,h.lim,h.out.far (by show w.heap.size+1≠a;omega) _,h.bel.setCell (by show w.heap.size<=a;omega) _,h.bu.setCell (by show w.heap.size<=a;omega) _⟩;have:=f i m;unfold zLk at this⊢;by_cases e:i=k
 ·subst e;rw[if_neg (by omega)]at this;rw[if_pos (by omega)];exact this.leaf n
 by_cases b:i<k
 ·rw[if_pos b]at this;rw[if_pos (by omega)];exact this.far (Ne.symm e)
 rw[if_neg b]at this;rw[if_neg (by omega)];exact this.far (Ne.symm e)
theorem zF4.nodes(h:zF4 (λb=>Z b/\b<w.heap.size) w u wr g v1 G g.length)(x:g.length*64<=140737488355328):zK (λb=>(Z b/\b<w.heap.size)\/w.heap.size+1+1<=b) wr v1 (zXP g):=by
 obtain⟨z,d,s⟩:=h.row;obtain⟨A,f,rfl,c1,c2,-⟩:=Row.of_own d (by decide);have a:(zXP g).length =g.length:=List.length_map _;refine⟨A,f,by rw[a],by rw[a];exact c1,by simpa[maxLen]using c2,by rw[a];exact x,?_⟩
 cases g with
 |nil=>unfold zXP;simp only[List.map_nil];unfold zAW;trivial
 |cons n r=>
 obtain⟨o,B,e⟩:=zBc d;injection e with e;subst e;have t:=(d.lt o rfl).1
 have:=zRk (Z:=λb=>(Z b/\b<w.heap.size)\/w.heap.size+1+1<=b) (w:=wr) (b:=o) (Or.inr (by omega)) (xs:=z) (λj u y=>zJB d y) (zXP (n::r)) 0 (λi v=>by
  have c:i<(n::r).length :=by rwa[a]at v
  have k:=s i c;unfold zLk at k;rw[if_pos c]at k;rw[Nat.zero_add]
  have e:(zXP (n::r))[i]=zCz ((n::r).getD i zB9):=by
   have q:(zXP (n::r))[i]=zCz (n::r)[i]:=List.getElem_map _;rw[q,List.getD_eq_getElem?_getD,List.getElem?_eq_getElem c];rfl
  rw[e]
  exact(k.keep (.of_below_lt h.bu (λb _ m=>m.2))).mono λb m=>Or.inl m)
 simpa using this
theorem zTg(Z:zD)(v:Value)(g:List zB)(w:World)(h:zK Z w v g):
  Calls prog 34 #[.agg #[v]] w λe w'=>∃v',e= .returned (.agg #[v'])/\zK (λb=>(Z b/\b<w.heap.size)\/w.heap.size<=b) w' v' (zXP g)/\Bw w w':=by
 have HC:=hid (λW(F:Bw w W)=>zQV _ v g W (h.live.keep (.of_below F)));obtain⟨A,q,rfl,-,-,h3,-⟩:=h;have D:=hid h3;have H:=zCX w (.cells #[.slice A g.length q] 74) (.cells #[.slice none 0 0] 74);have I:=(Blk.new' (w.alloc (.cells #[.slice A g.length q] 74)) 74 #[.slice none 0 0] (n:=w.heap.size+1) (by simp));have z:=hid (And.intro H I);clear H I h3;go_enter func34,ntmps34
 go_wp2_with fail
 refine(HC.out _ z.out.1).mono ?_;rintro e C ⟨v1,xs,rfl,a,d,m⟩
 have O:=hid (show zF4 (λb=>Z b/\b<w.heap.size) w ((w.alloc (.cells #[.slice A g.length q] 74)).alloc (.cells #[.slice none 0 0] 74)) (C.alloc (.cells #[v1] 74)) g v1 C.heap.size 0 from
  ⟨⟨xs,(zIQ a (by simp)).alloc _,λi hi=>by
   have:=m i hi;unfold zLk;rw[if_neg (by omega),List.getD_eq_getElem?_getD,List.getElem?_eq_getElem hi]
   exact this.mono λb F=>F.1⟩,Blk.new _ _ _,λe=>by have:=(a.lt _ e).2;omega,by have:=d.size;simpa using this,(z.out.2.below d (by simp)).alloc _,(z.out.1.trans (d.mono z.out.1.size)).alloc (by have:=d.size;simp at this;omega) _,(d.mono z.out.1.size).alloc (by have:=d.size;simp at this;omega) _⟩)
 obtain⟨o,c,rfl,-,-,-⟩:=Row.of_own a (by decide);clear a m d HC z;generalize (w.alloc _).alloc _=u at*;have HG:=hid (show C.heap.size=C.heap.size from rfl);go_upto_region 2 with fail
 generalize (C.alloc _)=w2 at*;generalize C.heap.size=G at*;have R:=O.out.box.at0;have x:=O.out.box.lt;have aa:g.length<=2199023255552:=by have:=D.out;omega
 go_wp2;clear R x;go_loopw[13] (λV wr=>∃k:Nat,k<=g.length/\V= .int .i64 k/\zF4 (λb=>Z b/\b<w.heap.size) w u wr g (.slice o g.length c) G k) (λV _=>g.length-(intOf V).toNat);case atStart=>exact⟨0,Nat.zero_le _,rfl,O.out⟩
 case round=>
  obtain⟨k,hk,rfl,f⟩:=hrel;by_cases y:k<g.length
  ·obtain⟨ys,a,m⟩:=f.row
   have hA:∃J,o=some ⟨J,0,none⟩:=by
    rcases a.2 with⟨_,h0⟩|⟨gc,c',cur',hv,_⟩
    ·omega
    injection hv with hv;exact⟨gc,hv⟩
   obtain⟨J,rfl⟩:=hA;obtain⟨vc,vk,L,M,x2,x3,T,s,t⟩:=m k y;unfold zLk at L M T s t;rw[if_neg (Nat.lt_irrefl k)]at L M T s t;have c0:=zJB a L;have c1:=zJB a M;have c2:=zJB a x2;have c3:=zJB a x3;have cf:=zSs a (k*4);have cl:J<wr.heap.size:=(a.lt J rfl).2;have R:=f.box.at0;have x:=f.box.lt;obtain⟨X,cc,rfl,-⟩:=s.is;obtain⟨Y,kc,rfl,-,-,U,-⟩:=t.is;have E:=hid f;have N:=hid y;(have ab:(k:Int)<(g.length:Int):=by omega);obtain⟨n,K⟩:∃n,n=g.getD k zB9:=⟨_,rfl⟩;have P:=hid K;(have ac:n.kids.length<=17592186044416:=by rw[K];omega);rw[<-K]at c0 c1 c2 c3;clear L M x2 x3 m a T s t f K U y;by_cases j:n.kids=[]
   ·(have e3:((n.kids.length:Int)==0)=true:=by simp[j]);have B:=hid (E.out.turn N.out (by rw[<-P.out];exact j));rw[<-P.out]at B;replace B:=hid (B.out.alloc (.cells #[.bool n.leaf,.int .i64 n.fact,.slice X n.cuts.length cc,.slice Y n.kids.length kc] 123));clear j;go_wp2;go_roundw;(case rel=>exact⟨k+1,by omega,by go_num,B.out⟩);case measure=>simp[intOf];omega
   (have e3:((n.kids.length:Int)==0)=false:=by simp[j]);have B:=hid ((E.out.alloc (.cells #[.bool n.leaf,.int .i64 n.fact,.slice X n.cuts.length cc,.slice Y n.kids.length kc] 123)).stay (by rw[<-P.out];exact j));clear j;go_wp2;go_roundw;(case rel=>exact⟨k+1,by omega,by go_num,B.out⟩);case measure=>simp[intOf];omega
  obtain rfl:k=g.length:=by omega
  have R:=f.box.at0;have x:=f.box.lt;have r0:=f.out.at0;have rf:=f.out.frozen 0;have rl:=f.out.lt
  have HP:=hid (show zK (λb=>(Z b/\b<w.heap.size)\/w.heap.size<=b) (wr.setCell ⟨w.heap.size+1,0,none⟩ (.slice o g.length c)) (.slice o g.length c) (zXP g)/\Bw w (wr.setCell ⟨w.heap.size+1,0,none⟩ (.slice o g.length c)) from
   ⟨((f.nodes D.out).keep ((zA.refl _ _).setCell (λ_ h=>by rcases h with h|h<;>(simp at h;omega)) _)).mono λb F=>F.imp_right λh=>by omega,f.bel.setCell (by show w.heap.size<=w.heap.size+1;omega) _⟩)
  have Q:=hid ((f.out.set_ 0 (.slice o g.length c)).cell 0);clear f;go_wp2;have r1:(wr.setCell ⟨w.heap.size+1,0,none⟩ (.slice o g.length c)).cell? ⟨w.heap.size+1,0,none⟩=some (.slice o g.length c):=Q.out;exact bodyPost_ret (v:= .agg #[.slice o g.length c]) (by simp[results,results34,go_sem,r1]) rfl ⟨_,rfl,HP.out.1,HP.out.2⟩
end Go.Proofs.YtommaegelgilnaaGreatDoor
