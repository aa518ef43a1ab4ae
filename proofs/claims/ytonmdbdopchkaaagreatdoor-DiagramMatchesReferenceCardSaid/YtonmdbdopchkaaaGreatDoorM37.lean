/- Texts CR V7 V8. -/
import Derived.Test.YtonmdbdopchkaaaGreatDoorM34
import Derived.Test.YtonmdbdopchkaaaGreatDoorM33
import Derived.Laws.OwnMore
set_option linter.all false
namespace Go.Proofs.YtonmdbdopchkaaaGreatDoor
open Go.RowKit
set_option maxHeartbeats 8000000
set_option maxRecDepth 100000
theorem zM0{hi:Int}:∀{l:List Int}{lo:Int},zk lo hi l->l.Nodup
 |[],_,_=>by simp
 |c::r,lo,h=>by
  rw[List.nodup_cons];exact⟨λhm=>by have:=zA3 h.2.2 c hm;omega,zM0 h.2.2⟩
theorem zHw(f:Fm)(x:zC):(zK f x).Nodup :=by
 unfold zK;rw[List.nodup_cons];have:=zFu f x;exact⟨λhm=>by have:=zA3 this _ hm;omega,zM0 this⟩
theorem zKH{l:List Int}{n lo hi v:Int}(h:v∈l):v∈zAr l n lo hi:=by
 unfold zAr;split
 ·exact h
 ·exact(zJr _ _ _).2 (Or.inr h)
theorem zOC{l:List Int}{n lo hi:Int}(h0:lo≤n)(h1:n≤hi):n∈zAr l n lo hi:=by
 unfold zAr;rw[if_neg (by omega)];exact(zJr _ _ _).2 (Or.inl rfl)
mutual
theorem zFv{nm:ByteArray}{lo hi:Int}(hh:hi≤1000000):∀(f:Fm)(l:List Int)(v:Int),(v∈l∨((∃n∈z7 nm f,v=n∨v=n+1)∧lo≤v∧v≤hi))->v∈zCA nm lo hi f l
 | .mk op n cm nu kids,l,v,h=>by
  rw[zCA];refine zJe hh kids _ v ?_;rcases h with h|⟨⟨m,hm,e⟩,h0,h1⟩
  ·left;split
   ·exact zKH (zKH h)
   ·exact h
  ·rw[z7]at hm;rcases List.mem_append.1 hm with hm|hm
   ·left;split at hm
    ·rename_i hc;rw[if_pos hc];simp only[List.mem_singleton]at hm;subst hm;rcases e with e|e
     ·subst e;exact zKH (zOC h0 h1)
     ·(have es:zBz m=v:=by unfold zBz;rw[if_neg (by omega)];omega);rw[<-es]at h0 h1⊢;exact zOC h0 h1
    ·cases hm
   ·exact Or.inr ⟨⟨m,hm,e⟩,h0,h1⟩
theorem zJe{nm:ByteArray}{lo hi:Int}(hh:hi≤1000000):∀(r:List Fm)(l:List Int)(v:Int),(v∈l∨((∃n∈zj nm r,v=n∨v=n+1)∧lo≤v∧v≤hi))->v∈zAN nm lo hi r l
 |[],l,v,h=>by
  rw[zAN];rcases h with h|⟨⟨m,hm,_⟩,_⟩
  ·exact h
  ·rw[zj]at hm;cases hm
 |k::r,l,v,h=>by
  rw[zAN];refine zJe hh r _ v ?_;rcases h with h|⟨⟨m,hm,e⟩,h0,h1⟩
  ·exact Or.inl (zFv hh k l v (Or.inl h))
  ·rw[zj]at hm;rcases List.mem_append.1 hm with hm|hm
   ·exact Or.inl (zFv hh k l v (Or.inr ⟨⟨m,hm,e⟩,h0,h1⟩))
   ·exact Or.inr ⟨⟨m,hm,e⟩,h0,h1⟩
end
theorem zQq(f:Fm)(x:zC)(hh:x.hi≤1000000):(zK f x).length ≤(zQ f x).length :=by
 refine zDQ _ _ (zHw f x) λv hv=> ?_
 unfold zQ;refine zFv hh f _ v ?_;unfold zK at hv;rcases List.mem_cons.1 hv with rfl|hv
 ·exact Or.inl (by simp)
 ·rw[zCb,List.mem_filter,List.mem_flatMap]at hv;obtain⟨⟨n,hn,e⟩,hr⟩:=hv;simp only[List.mem_cons,List.not_mem_nil,or_false]at e;simp only[Bool.and_eq_true,decide_eq_true_eq]at hr;exact Or.inr ⟨⟨n,hn,e⟩,by omega,by omega⟩
section given
variable {nm m:ByteArray} {v t:Int}
theorem zOD{b:Bool}(h:t∈z7 m (kn b)):False:=by
 cases b<;>simp[kn,zF8,z7,zj]at h
theorem zSD{k:Fm}(h:t∈z7 m (zDb k)):t∈z7 m k:=by
 unfold zDb at h;split at h
 ·exact(zOD h).elim
 ·rw[z7]at h;simpa[zj]using h
theorem zQr{op:Int}(hop:op=5∨op=6){ks:List Fm}(h:t∈z7 m (zBt op ks)):∃k∈ks,t∈z7 m k:=by
 unfold zBt at h;split at h
 ·rename_i k hk;exact⟨k,List.mem_of_find?_eq_some hk,h⟩
 ·split at h
  ·rw[z7,if_neg (by unfold zCc;split<;>omega)]at h;simp[zj]at h
  ·rename_i k hk;exact⟨k,zES (op:=op) (by rw[hk];simp),h⟩
  ·rw[z7,if_neg (by omega)]at h;simp only[List.nil_append]at h;obtain⟨k,hk,hn⟩:=(zH6 m).1 h;exact⟨k,zES hk,hn⟩
mutual
theorem zHF:∀f:Fm,t∈z7 m (zU nm v f)->t∈z7 m f
 | .mk op name cm nu kids,h=>by
  have hkl:∀k,k∈zw nm v kids->t∈z7 m k->t∈zj m kids:=λk=>zIj kids
  rw[zU]at h;split at h
  ·split at h
   ·exact(zOD h).elim
   ·exact h
  ·split at h
   ·split at h
    ·rename_i k r hk;rw[z7];exact List.mem_append_right _ (hkl k (by rw[hk];exact List.mem_cons_self ..) (zSD h))
    ·exact h
   ·split at h
    ·rename_i h56;obtain⟨k,hk,hn⟩:=zQr h56 h;rw[z7];exact List.mem_append_right _ (hkl k hk hn)
    ·exact h
theorem zIj:∀(l:List Fm){k:Fm},k∈zw nm v l->t∈z7 m k->t∈zj m l
 |[],_,h,_=>absurd h (by simp[zw])
 |a::r,k,h,hn=>by
  rw[zw]at h;rw[zj];rcases List.mem_cons.1 h with rfl|h
  ·exact List.mem_append_left _ (zHF a hn)
  ·exact List.mem_append_right _ (zIj r h hn)
end
end given
def zEQ(f:Fm):List zC->Nat
 |[]=>1
 |x::r=>(zK f x).length *zEQ f r
theorem zHG(f:Fm)(x:zC):1≤(zK f x).length :=by unfold zK;simp
theorem zM1(f:Fm):∀r:List zC,1≤zEQ f r
 |[]=>Nat.le_refl _
 |x::r=>Nat.mul_pos (zHG f x) (zM1 f r)
theorem zPR{f f':Fm}(h:∀m t,t∈z7 m f'->t∈z7 m f)(x:zC):(zK f' x).length ≤(zK f x).length :=by
 refine zDQ _ _ (zHw f' x) λv hv=> ?_
 unfold zK at hv⊢;rcases List.mem_cons.1 hv with rfl|hv
 ·simp
 ·refine List.mem_cons_of_mem _ ?_;rw[zCb,List.mem_filter,List.mem_flatMap]at hv⊢;obtain⟨⟨n,hn,e⟩,hr⟩:=hv;exact⟨⟨n,h _ _ hn,e⟩,hr⟩
theorem zIk{f f':Fm}(h:∀m t,t∈z7 m f'->t∈z7 m f):∀r:List zC,zEQ f' r≤zEQ f r
 |[]=>Nat.le_refl _
 |x::r=>Nat.mul_le_mul (zPR h x) (zIk h r)
theorem zKu{f:Fm}{n:Int}:∀(r:List zC)(out:Int),(∀x∈r,x.hi≤1000000)->1≤out->zCy f n r out≤n->out*(zEQ f r:Int)≤n
 |[],out,_,_,h=>by simpa[zCy,zEQ]using h
 |x::r,out,hh,h1,h=>by
  rw[zCy]at h;split at h
  ·omega
  ·have hl:=zQq f x (hh x (by simp));have hp:=zHG f x
   have:=zKu r _ (λy hy=>hh y (by simp[hy])) (by
    have:=Int.mul_le_mul h1 (show(1:Int)≤(zQ f x).length by omega) (by decide) (by omega)
    omega) h
   refine Int.le_trans ?_ this;rw[zEQ,Int.natCast_mul,<-Int.mul_assoc];refine Int.mul_le_mul_of_nonneg_right ?_ (by omega);exact Int.mul_le_mul_of_nonneg_left (by omega) (by omega)
structure Room (st:GSt):Prop where
 w:WSt st
 full:st.full=false
theorem zIl{st:GSt}(h:Room st)(b:Bool){full:Bool}(hf:full=false):Room (zBW b full st).2∧inn (zBW b full st).2.all ≤inn st.all:=by
 obtain⟨a,-,c⟩:=zIb h.w b full;exact⟨⟨a,hf⟩,c⟩
theorem zM2{f:Int->GSt->Int × GSt}{C:Nat}(hf:∀v st,Room st->inn st.all+C≤3998->Room (f v st).2∧inn (f v st).2.all +1≤inn st.all+C):∀(l:List Int)(st:GSt),Room st->inn st.all+l.length*C≤3998->
  Room (zH f l st).2∧inn (zH f l st).2.all +l.length≤inn st.all+l.length*C
 |[],st,h,_=>⟨h,by simp[zH]⟩
 |v::l,st,h,hC=>by
  have e:(v::l).length *C=l.length*C+C:=by rw[List.length_cons,Nat.add_mul,Nat.one_mul]
  rw[e]at hC⊢;obtain⟨h1,h2⟩:=hf v st h (by omega);obtain⟨k1,k2⟩:=zM2 hf l _ h1 (by omega);unfold zH;exact⟨k1,by simp only[List.length_cons];omega⟩
theorem zSE{all:List zB}{i:Int}{s k:Int}:zb all i [s] [k]=(k,all):=by
 unfold zb;simp[zM]
theorem zM3:∀(rest:List zC)(i:Nat)(f:Fm)(st:GSt),Room st->inn st.all+zEQ f rest≤3998->Room (zo rest i f st).2∧inn (zo rest i f st).2.all +1≤inn st.all+zEQ f rest
 |[],i,f,st,h,hC=>by
  have hl:=h.w.tab.len;simp only[zEQ]at hC⊢;unfold zo;split
  ·obtain⟨a,b⟩:=zIl h (decide (f.op=1)) h.full;exact⟨a,by omega⟩
  ·obtain⟨a,b⟩:=zIl h false (full:=st.full||decide (4000<st.all.length)) (by rw[h.full,decide_eq_false (by omega)];rfl);exact⟨a,by omega⟩
 |x::rest,i,f,st,h,hC=>by
  have hl:=h.w.tab.len;have hp:=zM1 f (x::rest);unfold zo;split
  ·obtain⟨a,b⟩:=zIl h (decide (f.op=1)) h.full;exact⟨a,by omega⟩
  ·rw[if_neg (by rw[h.full,decide_eq_false (by omega)];decide)];split
   ·exact⟨h,by show inn st.all+1≤_;omega⟩
   ·rw[zEQ]at hC⊢
    obtain⟨k1,k2⟩:=zM2 (f:=λv st=>zo rest (i+1) (zU x.name v f) st) (C:=zEQ f rest) (λv st hs hc=>by
     have hm:=zIk (f:=f) (f':=zU x.name v f) (λm t=>zHF f) rest;obtain⟨a,b⟩:=zM3 rest (i+1) (zU x.name v f) st hs (by omega)
     exact⟨a,by omega⟩) (zK f x) st h hC
    have hkl:=zA6 (f:=λv st=>zo rest (i+1) (zU x.name v f) st) (zK f x) st;obtain⟨w1,w2,-⟩:=zIc (f:=λv st=>zo rest (i+1) (zU x.name v f) st) (B:=4000+rest.length) (λv st=>zFD rest _ _ st) (λv st hs=>zId rest _ _ st hs) (zK f x) st h.w;obtain⟨i1,i2,i3⟩:=zLg w1.tab (i:=i) (ss:=zK f x) w2 (zET (by simp[zK]));have hkf:=k1.full;generalize zH (λv st=>zo rest (i+1) (zU x.name v f) st) (zK f x) st=r at*;obtain⟨kids,st'⟩:=r;simp only at*;refine⟨⟨⟨i1,λp hp=> ?_⟩,hkf⟩,?_⟩
    ·rcases zDp hp with hp|hp
     ·exact(w1.done p hp).pre (zDB _ _ _ _)
     ·subst hp;exact i2
    ·have hs1:=zHG f x;by_cases e1:(zK f x).length =1
     ·have e2:(zb st'.all i (zK f x) kids).2=st'.all:=by
       obtain⟨s,hs⟩:=List.length_eq_one_iff.1 e1;obtain⟨k,hk⟩:=List.length_eq_one_iff.1 (hkl.trans e1);rw[hs,hk,zSE]
      rw[e2];omega
     ·omega
theorem zIm(ds:List zC)(g:List zB)(i:Int):(zAQ ds g i).length =(zBH ds g i).length :=by unfold zAQ;rw[List.length_map]
theorem zPS{ds:List zC}{f:Fm}(hs:zCJ f ds=true)(hd:zR ds=true)(hc:zBN ds f=0)(ht:zBo f≤24):(zBu ds f).2=0:=by
 have hok:okF ds f:=(zDX hc).2;unfold zCJ at hs;simp only[Bool.and_eq_true,decide_eq_true_eq]at hs
 have hh:∀x∈ds,x.hi≤1000000:=λx hx=>by
  unfold zR at hd;simp only[Bool.and_eq_true,List.all_eq_true]at hd;have:=hd.1.1 x hx;unfold zAv at this;simp only[Bool.and_eq_true,Bool.or_eq_true,beq_iff_eq,decide_eq_true_eq]at this;omega
 have hp:=zKu (f:=f) ds 1 hh (Int.le_refl _) hs.2.2;have hm:=zIk (f:=f) (f':=zU ⟨#[]⟩ 0 f) (λm t=>zHF f) ds;obtain⟨R,hi⟩:=zM3 ds 0 (zU ⟨#[]⟩ 0 f) ⟨[],[],false⟩ ⟨WSt.new,rfl⟩ (by simp[inn];omega);have hst:GInv ds ⟨[],[],false⟩:=⟨Good.nil ds,λp hp=>absurd hp (by simp)⟩;obtain⟨A,F⟩:=zGf hd ds 0 (zU ⟨#[]⟩ 0 f) ⟨[],[],false⟩ (by simp) (Nat.zero_le _) (zCn f hok) (zFT f hok) (λn hn=>zGO _ (zCn f hok) n hn) hst R.full;have hlen:=(zCf A.good F.rng).length_le;have hw:=R.w.tab.len;have hin:inn ([]:List zB)=0:=rfl;unfold zBu;rw[if_neg (by rw[hd];simp[hc]),if_neg (by omega)];simp only;rw[if_neg (by rw[R.full];decide),if_neg (by rw[zIm];simp only at hi;omega)]
theorem zSF(j:Int):za [] j=0:=by unfold za;rw[if_neg (by simp)]
theorem zQs{od:List Int}(hn:od.Nodup){k:Nat}(hk:k<od.length)(j:Int):za (od.take (k+1)) j=if od[k]=j then((k:Nat):Int)else za (od.take k) j:=by
 have hnm:od[k]∉od.take k:=λh=>by
  have e:od=od.take k++od[k]::od.drop (k+1):=by rw[<-List.drop_eq_getElem_cons hk];exact(List.take_append_drop k od).symm
  rw[e,List.nodup_append]at hn;exact hn.2.2 _ h _ (List.mem_cons_self ..) rfl
 unfold za;rw[List.take_succ_eq_append_getElem hk];by_cases e:od[k]=j
 ·rw[if_pos e,if_pos (by rw[<-e];exact List.mem_append_right _ (List.mem_cons_self ..)),<-e,List.idxOf_append,if_neg hnm,List.idxOf_cons_self,List.length_take];omega
 ·rw[if_neg e];by_cases hm:j∈od.take k
  ·rw[if_pos hm,if_pos (List.mem_append_left _ hm),List.idxOf_append,if_pos hm]
  ·rw[if_neg hm,if_neg (by
    rw[List.mem_append];rintro(h|h)
    ·exact hm h
    ·simp at h;exact e h.symm)]
theorem zTG{g:List zB}(k:Nat)(i:Int):z8 g (k+1) i []≠[]:=by
 have pre:∀(k:Nat)(x:Int)(o:List Int),o≠[]->z8 g k x o≠[]:=by
  intro k
  induction k with
  |zero=>intro x o h;exact h
  |succ k ih=>
   intro x o h;unfold z8;split
   ·exact h
   ·have fold:∀(l o:List Int),o≠[]->l.foldl (λo x=>z8 g k x o) o≠[]:=by
     intro l
     induction l with
     |nil=>intro o h;exact h
     |cons a l ih2=>intro o h;exact ih2 _ (ih a o h)
    exact fold _ _ (by simp)
 unfold z8;rw[if_neg (by simp)]
 have fold:∀(l o:List Int),o≠[]->l.foldl (λo x=>z8 g k x o) o≠[]:=by
  intro l
  induction l with
  |nil=>intro o h;exact h
  |cons a l ih2=>intro o h;exact ih2 _ (pre k a o h)
 exact fold _ _ (by simp)
theorem RkT.node_at{t:TypeId}{w:World}{M:Nat}{all:List zB}{F Z:Nat->Prop}(h:RkT t w M all F Z){i:Nat}(hi:i<all.length):
  ∃g cap vc vk,w.cell? ⟨M,0,none⟩=some (.slice (some ⟨g,0,none⟩) all.length cap)∧F g∧w.cell? ⟨g,i*4,none⟩=some (.bool all[i].leaf)∧w.cell? ⟨g,i*4+1,none⟩=some (.int .i64 all[i].fact)∧
   w.cell? ⟨g,i*4+2,none⟩=some vc∧w.cell? ⟨g,i*4+3,none⟩=some vk∧I64 all[i].fact ∧zL Z w vc all[i].cuts ∧zL Z w vk all[i].kids :=by
 obtain⟨⟨v,csl,h1,h2,h3,h5⟩,_⟩:=h;obtain⟨n,hn⟩:∃n,all.length=n+1:=⟨all.length-1,by omega⟩;have h2':=h2;rw[hn]at h2';obtain⟨g,cap,rfl⟩:=zAZ h2';obtain⟨cs,⟨vc,vk,rfl,hf,hc,hk⟩,hcs⟩:=h3.at_ i hi
 have hce:∀j u,([.bool all[i].leaf,.int .i64 all[i].fact,vc,vk]:List Value)[j]? =some u->w.cell? ⟨g,i*4+j,none⟩=some u:=λj u hu=>by
  have:=h2.cells (g:=g) rfl (i*4+j) u (hcs j u hu);rwa[show(⟨g,0,none⟩:Addr).add (i*4+j)=⟨g,i*4+j,none⟩ from by unfold Addr.add;split<;>simp_all]at this
 exact⟨g,cap,vc,vk,by rw[hn];exact h1.cell 0,(h5 g rfl).1,hce 0 _ rfl,hce 1 _ rfl,hce 2 _ rfl,hce 3 _ rfl,hf,hc,hk⟩
def zOE(w2 wx:World)(Z:zD)(all:List zB)(od:List Int)(k:Nat):Prop:=
 ∃F2 Z2,RkT 30 wx w2.heap.size ((od.take k).map (zAS all od)) F2 Z2∧(∀b,F2 b->w2.heap.size≤b)∧(∀b,Z2 b->Z b∨w2.heap.size≤b)∧Below w2.heap.size w2 wx
theorem zOE.new(w2:World)(Z:zD)(all:List zB)(od:List Int):zOE w2 (w2.alloc (.cells #[.slice none 0 0] 30)) Z all od 0:=
 ⟨_,_,RkT.new 30 w2,λb h=>Nat.le_of_eq h.symm,λb h=>h.elim,zE w2 _⟩
theorem zGk(ds:List zC)(all:List zB)(hg:Good ds all)(hall:all.length≤1000000)(M:Nat)(F Z:Nat->Prop)(i:Int)(w:World)(hi:Rng all i)(h:RkS w M all F Z):
  Calls Tryz.prog 41 #[.pointer (some ⟨M,0,none⟩),.int .i64 i] w (zEz Z (zAg ds all i) w):=by
 have hrk:=zCG (ds:=ds) (g:=all) i;obtain⟨A,cap,hMb,hN⟩:=h.nodes hall;have hMl:=h.liveF M h.fM;have hW0:(w.alloc (.cells #[.slice none 0 0] 30)).heap.size =w.heap.size+1:=by simp
 have hb0:=zE w (.cells #[.slice none 0 0] 30);have HV:=hid (zIa hg hall A cap (w.heap.size+1) (λb=>F b∨Z b) (λb hb=>Nat.lt_succ_of_lt (hb.elim (h.liveF b) (h.liveZ b))) (ds.length+1) i [] (.slice none 0 0) (w.alloc (.cells #[.slice none 0 0] 30)) (by omega) hi (Ord.nil all) (by omega) (hN.keep (.of_below hb0)) (World.ownsRow_nil _ _ _ _));have HOD:=hid (Ord.visit hg (k:=ds.length+1) (Ord.nil all) hi (by omega));have HNE:=hid (zTG (g:=all) ds.length i);have HFR:=hid (show zAg ds all i=if 4000<(z8 all (ds.length+1) i []).length then([],2)else((z8 all (ds.length+1) i []).map (zAS all (z8 all (ds.length+1) i [])),0) from rfl);have HKM:=hid (λx(hx:x∈z8 all (ds.length+1) i []) y(hy:y∈(nAt all x).kids)=>(show Rng all y from(zEA hg (ds.length+1) i [] hi (by omega) (by simp) (by simp)).1.rng y ((zEA hg (ds.length+1) i [] hi (by omega) (by simp) (by simp)).1.kids x hx (by simp) y hy)));generalize z8 all (ds.length+1) i []=od at*;have HT:=hid h;have HM:=hid hMb;have HNN:=hid hN;have m0:(w.alloc (.cells #[.slice none 0 0] 30)).cell? ⟨M,0,none⟩=some (.slice A all.length cap):=(hMb.alloc _).cell 0;have HB0:=hid hb0;have HX0:=hid (Blk.new w 30 #[.slice none 0 0]);clear h hMb hN hb0 hrk hW0 hi;go_enter Tryz.func41,Tryz.ntmps41
 go_wp2_with fail
 refine HV.out.mono ?_;rintro e w1 ⟨v1,rfl,hown,hb1⟩;clear HV m0;have hol:od.length≤1000000:=Nat.le_trans HOD.out.len hall;obtain⟨q,hq⟩:∃q,od.length=q+1:=⟨od.length-1,by have:=List.length_pos_iff.2 HNE.out;omega⟩;have hown':=hown;rw[hq]at hown';obtain⟨ob,ocap,rfl⟩:=zAZ hown';rw[<-hq]at hown⊢;clear hq hown' q;have hbw:Below w.heap.size w w1:=HB0.out.trans (hb1.mono (Nat.le_succ _));have hbox:Blk w1 w.heap.size 30 #[.slice none 0 0]:=HX0.out.of_block (hb1.block _ (Nat.lt_succ_self _))
 have HOC:=hid (λk(hk:k<od.length)=>(show w1.cell? ⟨ob,k,none⟩=some (.int .i64 od[k]) from by
  have:=hown.cells (g:=ob) rfl k (.int .i64 od[k]) (by rw[List.getElem?_map,List.getElem?_eq_getElem hk];rfl)
  rwa[show(⟨ob,0,none⟩:Addr).add k=⟨ob,k,none⟩ from by unfold Addr.add;split<;>simp_all]at this))
 have HW1:=hid (And.intro hbw (And.intro hbox (hown.lt ob rfl)));clear hown hb1 hbw hbox HB0 HX0;have x0:=HW1.out.2.1.at0;have x0f:=HW1.out.2.1.frozen 0;have x0l:=HW1.out.2.1.lt;have m0:w1.cell? ⟨M,0,none⟩=some (.slice A all.length cap):=(HW1.out.1.cell (p:=⟨M,0,none⟩) hMl).trans (HM.out.cell 0);have ml:M<w1.heap.size:=Nat.lt_of_lt_of_le hMl HW1.out.1.size;by_cases hbig:4000<od.length
 ·have hb':(4000:Int)<(od.length:Int):=by omega
  have HE:=hid (HFR.out.trans (if_pos hbig));clear hbig HFR;go_wp2;have hx:=HW1.out.2.1.set_ 0 (.slice none 0 0);have r0:(w1.setCell ⟨w.heap.size,0,none⟩ (.slice none 0 0)).cell? ⟨w.heap.size,0,none⟩=some (.slice none 0 0):=hx.cell 0;refine bodyPost_ret (v:= .tuple #[.agg #[.slice none 0 0],.int .i64 2]) (by simp[results,Tryz.results41,go_sem,r0]) rfl ⟨.slice none 0 0,?_,?_,HW1.out.1.setCell (Nat.le_refl _) _⟩
  ·rw[HE.out]
  ·rw[HE.out];exact⟨none,0,rfl,Nat.le_refl _,by decide,by decide,trivial⟩
 ·have HE:=hid (HFR.out.trans (if_neg hbig));have hb':¬(4000:Int)<(od.length:Int):=by omega
  obtain⟨i0,hi0,e0⟩:=Option.map_eq_some_iff.1 (show(Tryz.prog.info? 3).map (λi=>(i.zero,i.size,i.bytes))=some (some (.int .i64 0),1,8) from by kernel_rfl);simp only[Prod.mk.injEq]at e0;obtain⟨hz0,hsz0,hby0⟩:=e0;have hms:=λW=>run_makeSlice (w:=W) 31 3 i0 (.int .i64 0) Tryz.underlying31 hi0 hz0 .i64 .i64 (all.length:Int) (all.length:Int) (by omega) (Int.le_refl _) (by rw[hsz0,Int.toNat_natCast];omega) (by rw[hby0];omega) (by omega)
  simp only[Int.toNat_natCast,hsz0,Nat.mul_one]at hms
  have hcz:∀j,j<all.length->(madeCells #[Value.int .i64 0] all.length)[j]? =some (.int .i64 0):=λj hj=>by
   rw[<-Array.getElem?_toList,toList_madeCells_one,List.getElem?_replicate,if_pos hj]
  have hcs:(madeCells #[Value.int .i64 0] all.length).size =all.length:=size_madeCells _ _;rw[show(Value.int .i64 0).cells =#[.int .i64 0] from rfl]at hms;generalize madeCells #[Value.int .i64 0] all.length=cz at*;have HCZ:=hid (And.intro hcz hcs);clear hi0 hz0 hsz0 hby0 hcz hcs HFR hbig;go_wp2;have HP0:=hid (Blk.new w1 3 cz);clear hms;go_loopw[8] (λix wr=>∃(k:Nat)(cur:Array Value),k≤od.length∧ix= .int .i64 k∧Blk wr w1.heap.size 3 cur∧cur.size=all.length∧Hid (∀j,j<all.length->cur[j]? =some (.int .i64 (za (od.take k) (j:Nat))))∧Below w1.heap.size w1 wr) (λix _=>od.length-(intOf ix).toNat);case atStart=>exact⟨0,cz,Nat.zero_le _,rfl,HP0.out,HCZ.out.2,hid (λj hj=>by rw[List.take_zero,zSF];exact HCZ.out.1 j hj),zE w1 _⟩
  case round=>
   obtain⟨k,cur,hk,rfl,hbp,hcs,hcur,hbel⟩:=hrel;by_cases hlt:k<od.length
   ·have hoc:=(hbel.cell (p:=⟨ob,k,none⟩) HW1.out.2.2.2).trans (HOC.out k hlt);have hox:=Nat.lt_of_lt_of_le HW1.out.2.2.2 hbel.size;have hrx:=HOD.out.rng od[k] (List.getElem_mem hlt);have hpn:=zQs HOD.out.nodup hlt;(have hj1:((k:Nat):Int)<(od.length:Int):=by omega);(have hj0:(0:Int)≤((k:Nat):Int):=by omega);generalize od[k]=x at*;obtain⟨n,rfl⟩:=Int.eq_ofNat_of_zero_le hrx.1;(have hin:n<all.length:=by have:=hrx.2;omega);(have hn1:(n:Int)<(all.length:Int):=by omega);(have hn0:(0:Int)≤(n:Int):=by omega);have p0:wr.cell? ⟨w1.heap.size,n,none⟩=some (.int .i64 (za (od.take k) (n:Nat))):=(hbp.cell n).trans (hcur.out n hin);have p0f:=hbp.frozen n;have pl:=hbp.lt
    have HN:=hid (show Blk (wr.setCell ⟨w1.heap.size,n,none⟩ (.int .i64 k)) w1.heap.size 3 (cur.setIfInBounds n (.int .i64 k))∧(cur.setIfInBounds n (.int .i64 k)).size =all.length∧Hid (∀j,j<all.length->(cur.setIfInBounds n (.int .i64 k))[j]? =some (.int .i64 (za (od.take (k+1)) (j:Nat))))∧Below w1.heap.size w1 (wr.setCell ⟨w1.heap.size,n,none⟩ (.int .i64 k)) from by
     refine⟨hbp.set_ n _,by rw[Array.size_setIfInBounds];exact hcs,hid (λj hj=> ?_),hbel.setCell (Nat.le_refl _) _⟩;rw[hpn];by_cases e:n=j
     ·subst e;rw[if_pos rfl,Array.getElem?_setIfInBounds_self_of_lt (by omega)]
     ·rw[if_neg (by omega),Array.getElem?_setIfInBounds_ne e]
      exact hcur.out j hj)
    clear hbp hcs hcur hbel hrx hpn;generalize za (od.take k) (n:Nat)=old at*;go_wp2;go_roundw;(case rel=>exact⟨k+1,_,by omega,by go_num,HN.out⟩);case measure=>simp[intOf];omega
   ·(obtain rfl:k=od.length:=by omega);rw[List.take_length]at hcur;(rename World=>w2);have HPL:=hid (And.intro hbp (And.intro hcs hcur));have zh:=hid hbel;clear hbp hcs hcur hbel x0 x0f m0;go_wp2;go_loopw[10] (λix wx=>∃(k:Nat),k≤od.length∧ix= .int .i64 k∧zOE w2 wx Z all od k) (λix _=>od.length-(intOf ix).toNat);case atStart=>exact⟨0,Nat.zero_le _,rfl,zOE.new w2 Z all od⟩
    case round=>
     (rename World=>wx);obtain⟨k,hk,rfl,F2,Z2,hR,hF2,hZ2,hbel⟩:=hrel;have hb1:Below w1.heap.size w1 wx:=zh.out.trans (hbel.mono zh.out.size);have hb0:Below w.heap.size w wx:=HW1.out.1.trans (hb1.mono HW1.out.1.size);by_cases hlt:k<od.length
     ·have hoc:=(hb1.cell (p:=⟨ob,k,none⟩) HW1.out.2.2.2).trans (HOC.out k hlt);have hox:=Nat.lt_of_lt_of_le HW1.out.2.2.2 hb1.size;have m0:wx.cell? ⟨M,0,none⟩=some (.slice A all.length cap):=(hb0.cell (p:=⟨M,0,none⟩) hMl).trans (HM.out.cell 0);have ml:=Nat.lt_of_lt_of_le hMl hb0.size;have hrx:=HOD.out.rng od[k] (List.getElem_mem hlt);(have hget:(od.take (k+1)).map (zAS all od)=(od.take k).map (zAS all od)++[zAS all od od[k]]:=by rw[List.take_succ_eq_append_getElem hlt,List.map_append];rfl);have hkm:=HKM.out od[k] (List.getElem_mem hlt);(have hj1:((k:Nat):Int)<(od.length:Int):=by omega);(have hj0:(0:Int)≤((k:Nat):Int):=by omega);generalize od[k]=x at*;obtain⟨n,rfl⟩:=Int.eq_ofNat_of_zero_le hrx.1;(have hin:n<all.length:=by have:=hrx.2;omega);(have hn1:(n:Int)<(all.length:Int):=by omega);(have hn0:(0:Int)≤(n:Int):=by omega);obtain⟨nb,gcap,vcu,vki,hcM,hFg,c0,c1,c2,c3,hf,hcu,hki⟩:=HT.out.node_at hin;have hnb:=HT.out.liveF nb hFg;have eM:some (Value.slice A all.length cap)=some (.slice (some ⟨nb,0,none⟩) all.length gcap):=(HM.out.cell 0).symm.trans hcM;injection eM with eM;injection eM with q1 q2 q3;subst q1 q3;clear hcM q2 hFg;replace c0:=brd hb0 c0 hnb;replace c1:=brd hb0 c1 hnb;replace c2:=brd hb0 c2 hnb;replace c3:=brd hb0 c3 hnb;have hnl:=lt_of_cell c0;rw[zAI hin]at hkm;(have hren:zAS all od (n:Int)=⟨all[n].leaf,all[n].fact,all[n].cuts,all[n].kids.map (za od)⟩:=by unfold zAS;rw[zAI hin]);rw[hren]at hget;obtain⟨KU,kucap,rfl,-⟩:=hcu.form;obtain⟨K,kcap,rfl,-⟩:=hki.form;have HND:=hid (And.intro hf (And.intro hcu (And.intro hki (And.intro hget hkm))));have HRR:=hid (And.intro hR (And.intro hF2 (And.intro hZ2 (And.intro hbel hb0))));clear hf hcu hki hget hkm hren hR hF2 hZ2 hrx;generalize all[n]=nd at*;go_upto_region 13 with fail
      have HCC:=hid (λ(W:World)(hW:Below wx.heap.size wx W)=>(show W.cell? ⟨M,0,none⟩=some (.slice (some ⟨nb,0,none⟩) all.length cap)∧W.cell? ⟨ob,k,none⟩=some (.int .i64 (n:Nat))∧W.cell? ⟨nb,n*4,none⟩=some (.bool nd.leaf)∧W.cell? ⟨nb,n*4+1,none⟩=some (.int .i64 nd.fact)∧W.cell? ⟨nb,n*4+2,none⟩=some (.slice KU nd.cuts.length kucap)∧W.cell? ⟨nb,n*4+3,none⟩=some (.slice K nd.kids.length kcap) from
       ⟨brd hW m0 ml,brd hW hoc hox,brd hW c0 hnl,brd hW c1 hnl,brd hW c2 hnl,brd hW c3 hnl⟩))
      clear m0 hoc c0 c1 c2 c3 ml hox hnl hb1 hb0;refine zAO 11 (λW=>Below wx.heap.size wx W) (by kernel_rfl) ?_;have hB0:Below wx.heap.size wx wx.drew:=(Below.refl _ _).drew;have HSZ:=hid (show wx.drew.heap.size=wx.heap.size from rfl);have hS:(λW=>Below wx.heap.size wx W) wx.drew:=hB0;generalize wx.drew=y0 at*
      (refine tkZ 0 ?_ hS ?_ ?_;rotate_left;intro w;go_simp;(try with_reducible rfl);simp only[nr])
      (refine tkZ 1 ?_ hS ?_ ?_;rotate_left;intro w;go_simp;(try with_reducible rfl);simp only[nr])
      (refine tkZ 2 ?_ hS ?_ ?_;rotate_left;intro w;go_simp;(try with_reducible rfl);simp only[nr])
      (refine tkS 3 ?_ hS ?_ ?_;rotate_left;intro w hkw;obtain⟨m0,hoc,c0,c1,c2,c3⟩:=HCC.out _ hkw;clear hkw;go_simp;(try with_reducible rfl);simp only[nr])
      (refine tkZ 4 ?_ hS ?_ ?_;rotate_left;intro w;go_simp;(try with_reducible rfl);simp only[nr])
      (refine tkZ 5 ?_ hS ?_ ?_;rotate_left;intro w;go_simp;(try with_reducible rfl);simp only[nr])
      (refine tkZ 6 ?_ hS ?_ ?_;rotate_left;intro w;go_simp;(try with_reducible rfl);simp only[nr])
      (refine tkS 7 ?_ hS ?_ ?_;rotate_left;intro w hkw;obtain⟨m0,hoc,c0,c1,c2,c3⟩:=HCC.out _ hkw;clear hkw;go_simp;(try with_reducible rfl);simp only[nr])
      (refine tkZ 8 ?_ hS ?_ ?_;rotate_left;intro w;go_simp;(try with_reducible rfl);simp only[nr])
      (refine tkS 9 ?_ hS ?_ ?_;rotate_left;intro w hkw;obtain⟨m0,hoc,c0,c1,c2,c3⟩:=HCC.out _ hkw;clear hkw;go_simp;(try with_reducible rfl);simp only[nr])
      clear hS;refine wS1 10 (λK hK=> ?_);(go_wp2_with fail);refine hK _ _ (Or.inr (hB0.alloc hB0.size _)) ?_;clear hK K
      (try simp only[nr])
      have hB1:Below wx.heap.size wx (y0.alloc (.cells #[.bool false,.int .i64 0,.slice none 0 0,.slice none 0 0] 51)):=hB0.alloc hB0.size _;have hX:=Blk.new y0 51 #[.bool false,.int .i64 0,.slice none 0 0,.slice none 0 0];generalize y0.alloc (.cells #[.bool false,.int .i64 0,.slice none 0 0,.slice none 0 0] 51)=y1 at*;have HB1:=hid hB1;have HX:=hid hX;have z0:=hX.at0;have z1:=hX.at1;have z2:=hX.at2;have z3:=hX.at3;have g0:y1.frozen? ⟨y0.heap.size,0,none⟩=false:=hX.frozen 0;have g1:y1.frozen? ⟨y0.heap.size,1,none⟩=false:=hX.frozen 1;have g2:y1.frozen? ⟨y0.heap.size,2,none⟩=false:=hX.frozen 2;have g3:y1.frozen? ⟨y0.heap.size,3,none⟩=false:=hX.frozen 3;have gl:=hX.lt;clear hX hB1 hB0;refine wS1 11 (λK hK=> ?_);(go_wp2_with fail);refine hK _ _ (Or.inl rfl) ?_;clear hK K
      (try simp only[nr])
      refine wSd ?_ _;have hge:wx.heap.size≤y0.heap.size:=Nat.le_of_eq HSZ.out.symm;have HBX:=hid (show Blk ((((y1.setCell ⟨y0.heap.size,0,none⟩ (.bool nd.leaf)).setCell ⟨y0.heap.size,1,none⟩ (.int .i64 nd.fact)).setCell ⟨y0.heap.size,2,none⟩ (.slice KU nd.cuts.length kucap)).setCell ⟨y0.heap.size,3,none⟩ (.slice K nd.kids.length kcap)) y0.heap.size 51 #[.bool nd.leaf,.int .i64 nd.fact,.slice KU nd.cuts.length kucap,.slice K nd.kids.length kcap] from((((HX.out.set_ 0 _).set_ 1 _).set_ 2 _).set_ 3 _));have HBY:=hid (show Below wx.heap.size wx ((((y1.setCell ⟨y0.heap.size,0,none⟩ (.bool nd.leaf)).setCell ⟨y0.heap.size,1,none⟩ (.int .i64 nd.fact)).setCell ⟨y0.heap.size,2,none⟩ (.slice KU nd.cuts.length kucap)).setCell ⟨y0.heap.size,3,none⟩ (.slice K nd.kids.length kcap)) from((((HB1.out.setCell hge _).setCell hge _).setCell hge _).setCell hge _));clear HX HB1 z0 z1 z2 z3 g0 g1 g2 g3 gl hge HCC;(go_upto_region 14 with fail);generalize ((((y1.setCell ⟨y0.heap.size,0,none⟩ (.bool nd.leaf)).setCell ⟨y0.heap.size,1,none⟩ (.int .i64 nd.fact)).setCell ⟨y0.heap.size,2,none⟩ (.slice KU nd.cuts.length kucap)).setCell ⟨y0.heap.size,3,none⟩ (.slice K nd.kids.length kcap))=y2 at*;generalize y0.heap.size=nbx at*;obtain⟨hf,hcu,hki,hget,hkm⟩:=HND.out
      have hkk:nd.kids.length≤17592186044416:=by
       obtain⟨⟨_,_,_,_,_,hk8,-⟩,-⟩:=hki;omega
      clear hf hcu hki hget hkm;go_wp2;go_loopw[12,13] (λkv ix wr=>∃(j:Nat)(v2:Value),j≤nd.kids.length∧ix= .int .i64 j∧v2=kv∧wr.ownsRow (nbx+1) 3 1 v2 j (((nd.kids.take j).map (za od)).map (.int .i64))∧Below (nbx+1) y2 wr) (λ_ ix _=>nd.kids.length-(intOf ix).toNat);case atStart=>exact⟨0,.slice none 0 0,Nat.zero_le _,rfl,rfl,World.ownsRow_nil _ _ _ _,Below.refl _ _⟩
      case round=>
       (rename World=>wk);obtain⟨j,v2,hj,rfl,rfl,how,hbel⟩:=hrel;have b3:wk.cell? ⟨nbx,3,none⟩=some (.slice K nd.kids.length kcap):=(hbel.cell (p:=⟨nbx,3,none⟩) (Nat.lt_succ_self _)).trans (HBX.out.cell 3);have bl:nbx<wk.heap.size:=Nat.lt_of_lt_of_le HBX.out.lt hbel.size;have hbx2:Below wx.heap.size wx wk:=HBY.out.trans (hbel.mono (by have:=HSZ.out;omega));have hbw2:Below w2.heap.size w2 wk:=HRR.out.2.2.2.1.trans (hbx2.mono HRR.out.2.2.2.1.size);have hb02:Below w.heap.size w wk:=HRR.out.2.2.2.2.trans (hbx2.mono HRR.out.2.2.2.2.size);by_cases hlt3:j<nd.kids.length
       ·obtain⟨kb,koff,rfl,-,hkb,hkc⟩:=HND.out.2.2.1.at_ hlt3;have hkc2:=brd hb02 hkc hkb;have hkl:=lt_of_cell hkc2;have hyr:=HND.out.2.2.2.2 nd.kids[j] (List.getElem_mem hlt3);(have htk:(nd.kids.take (j+1)).map (za od)=(nd.kids.take j).map (za od)++[za od nd.kids[j]]:=by rw[List.take_succ_eq_append_getElem hlt3,List.map_append];rfl);(have hj1:((j:Nat):Int)<(nd.kids.length:Int):=by omega);(have hj0:(0:Int)≤((j:Nat):Int):=by omega);have HTK:=hid htk;clear hkc htk;generalize nd.kids[j]=y at*;obtain⟨kn,rfl⟩:=Int.eq_ofNat_of_zero_le hyr.1;(have hkn:kn<all.length:=by have:=hyr.2;omega);(have hkn1:(kn:Int)<(all.length:Int):=by omega);(have hkn0:(0:Int)≤(kn:Int):=by omega);have hp2:=(HPL.out.1.cell kn).trans (HPL.out.2.2.out kn hkn);have hpk:=brd hbw2 hp2 (lt_of_cell hp2);have hpl:=lt_of_cell hpk;have hby:nbx+1≤wk.heap.size:=bl;have HHW:=hid (And.intro how (And.intro hbel hby));clear hyr hp2 how hbel hbx2 hbw2 hb02 hby;generalize za od (kn:Int)=pk at*;go_wp2_with(at_builtin;refine zf rfl (.tmp 66) (.tmp 75) _ rfl Tryz.underlying31 Tryz.eInt rfl (HHW.out.1.alloc _) rfl (news:=[.int .i64 pk]) rfl (one_cell (by simp)) (by simp[Value.oneCell']) (by unfold maxLen;omega) (by omega) (by have:=HHW.out.2.2;simp;omega) ?_;intro v5 w5 hown5 hg5 hat5);have HN5:=hid (show w5.ownsRow (nbx+1) 3 1 v5 (j+1) (((nd.kids.take (j+1)).map (za od)).map (.int .i64))∧Below (nbx+1) y2 w5 from⟨by rw[HTK.out,List.map_append];exact hown5,zx (HHW.out.2.1.alloc HHW.out.2.2 _) (HHW.out.1.alloc _) hg5 (by have:=HHW.out.2.2;simp;omega) (Nat.le_refl _)⟩);clear hown5 hg5 hat5;go_wp2;go_roundw;(case rel=>exact⟨j+1,v5,by omega,by go_num,rfl,HN5.out.1,HN5.out.2⟩);case measure=>simp[intOf];omega
       ·(obtain rfl:j=nd.kids.length:=by omega);rw[List.take_length]at how;obtain⟨K2,k2cap,rfl,-,-,-⟩:=Row.of_own how (by decide);have hbxk:Blk wk nbx 51 #[.bool nd.leaf,.int .i64 nd.fact,.slice KU nd.cuts.length kucap,.slice K nd.kids.length kcap]:=HBX.out.of_block (hbel.block nbx (Nat.lt_succ_self _));have b3f:=hbxk.frozen 3;have hxn:wx.heap.size≤nbx:=Nat.le_of_eq HSZ.out.symm;have hbx7:Blk (wk.setCell ⟨nbx,3,none⟩ (.slice K2 nd.kids.length k2cap)) nbx 51 #[.bool nd.leaf,.int .i64 nd.fact,.slice KU nd.cuts.length kucap,.slice K2 nd.kids.length k2cap]:=hbxk.set_ 3 _;(have how7:(wk.setCell ⟨nbx,3,none⟩ (.slice K2 nd.kids.length k2cap)).ownsRow (nbx+1) 3 1 (.slice K2 nd.kids.length k2cap) nd.kids.length ((nd.kids.map (za od)).map (.int .i64)):=zl (Z:=λb=>b≠nbx) how ((zA.refl _ _).setCell (p:=⟨nbx,3,none⟩) (λ_ h=>h rfl) _) λb hb e=>by have:=(how.lt b hb).1;omega);have hb7:Below wx.heap.size wx (wk.setCell ⟨nbx,3,none⟩ (.slice K2 nd.kids.length k2cap)):=hbx2.setCell hxn _;have H7:=hid (And.intro hbx7 (And.intro how7 (And.intro hb7 hxn)));clear hbxk hbx7 how7 hb7 hxn how hbel hbx2 hbw2 hb02;(go_upto_region 20 with fail);generalize wk.setCell ⟨nbx,3,none⟩ (.slice K2 nd.kids.length k2cap)=w7 at*;clear b3 b3f bl;obtain⟨hbx7,how7,hb7,hxn⟩:=H7.out;obtain⟨hR,hF2,hZ2,hbel2,hb0x⟩:=HRR.out;have hbw7:Below w2.heap.size w2 w7:=hbel2.trans (hb7.mono hbel2.size);have hb07:Below w.heap.size w w7:=hb0x.trans (hb7.mono hb0x.size);have hs2:w.heap.size≤w2.heap.size:=Nat.le_trans HW1.out.1.size zh.out.size
        have hn:zd (λb=>Z b∨(Value.slice K2 nd.kids.length k2cap).ownBlock =some b) w7 [.bool nd.leaf,.int .i64 nd.fact,.slice KU nd.cuts.length kucap,.slice K2 nd.kids.length k2cap] ⟨nd.leaf,nd.fact,nd.cuts,nd.kids.map (za od)⟩:=
         ⟨_,_,rfl,HND.out.1,(HND.out.2.1.keep (.of_below hb07)).mono λ_ h=>Or.inl h,(zCl how7 (λx hx=>by obtain⟨y,-,rfl⟩:=List.mem_map.1 hx;exact zME (by omega) y) (by rw[List.length_map];omega)).mono λ_ h=>Or.inr h⟩
        have hzn:∀x,(Z x∨(Value.slice K2 nd.kids.length k2cap).ownBlock =some x)->¬F2 x∧x<w7.heap.size:=λx hx=>by
         rcases hx with hx|hx
         ·have h1:=HT.out.liveZ x hx;exact⟨λh=>by have:=hF2 x h;omega,Nat.lt_of_lt_of_le h1 hb07.size⟩
         ·have h1:=how7.lt x hx;exact⟨λh=>by have:=hR.liveF x h;omega,h1.2⟩
        (have hzn2:∀x,(Z x∨(Value.slice K2 nd.kids.length k2cap).ownBlock =some x)->Z x∨w2.heap.size≤x:=λx hx=>hx.imp id λhx=>by have h1:=how7.lt x hx;have:=hbel2.size;omega);obtain⟨⟨vo,csl,h1,h2,h3,h5⟩,hM,hs,hF,hZ⟩:=hR.below hb7;(have hlk:((od.take k).map (zAS all od)).length =k:=by rw[List.length_map,List.length_take];omega);have h2k:=h2;rw[hlk]at h2k;obtain⟨OA2,ocap2,rfl,-,-,-⟩:=Row.of_own h2k (by decide);have o0:=h1.at0;have ol:=h1.lt;have zGX:=hid (zEy hn);have HOW:=hid h2k;have MKX:=hid (λ(w6:World)(hg:(w7.alloc (.cells #[.bool nd.leaf,.int .i64 nd.fact,.slice KU nd.cuts.length kucap,.slice K2 nd.kids.length k2cap] 51)).grownBy w6 (Value.slice OA2 k ocap2).ownBlock)=>(h1.alloc (.cells #[.bool nd.leaf,.int .i64 nd.fact,.slice KU nd.cuts.length kucap,.slice K2 nd.kids.length k2cap] 51)).grown hg (λe=>(h5 _ e).2 rfl))
        have HG:=hid (λ(w6:World)(v6:Value)(ho:w6.ownsRow 0 51 4 v6 (k+1) (csl.flatten++[.bool nd.leaf,.int .i64 nd.fact,.slice KU nd.cuts.length kucap,.slice K2 nd.kids.length k2cap]))(hg:(w7.alloc (.cells #[.bool nd.leaf,.int .i64 nd.fact,.slice KU nd.cuts.length kucap,.slice K2 nd.kids.length k2cap] 51)).grownBy w6 (Value.slice OA2 k ocap2).ownBlock)(ha:v6.ownBlock=(Value.slice OA2 k ocap2).ownBlock ∨v6.ownBlock=some (w7.alloc (.cells #[.bool nd.leaf,.int .i64 nd.fact,.slice KU nd.cuts.length kucap,.slice K2 nd.kids.length k2cap] 51)).heap.size)=>
         (show zOE w2 (w6.setCell ⟨w2.heap.size,0,none⟩ v6) Z all od (k+1) from by
          obtain⟨⟨F',hr,hF'⟩,-⟩:=zH2 (t:=30) (wa:=w7) (wx:=w7.alloc (.cells #[.bool nd.leaf,.int .i64 nd.fact,.slice KU nd.cuts.length kucap,.slice K2 nd.kids.length k2cap] 51)) ((zA.refl _ _).alloc _) (by simp) h1 h3 h5 hM hs hF hZ hn hzn hg (by rw[hlk];exact ho) ha;refine⟨F',λx=>Z2 x∨(Z x∨(Value.slice K2 nd.kids.length k2cap).ownBlock =some x),by rw[HND.out.2.2.2.1];exact hr,λb hb=>(hF' b hb).elim (hF2 b) λh=>Nat.le_trans hbw7.size h,λb hb=>Or.elim hb (hZ2 b) (hzn2 b),?_⟩
          exact((hbw7.alloc hbw7.size _).grown hg (by have:=hbw7.size;simp;omega) (λb hb=>hF2 b (h5 b hb).1)).setCell (Nat.le_refl _) _))
        have b0:=hbx7.at0;have b1:=hbx7.at1;have b2:=hbx7.at2;have b3:=hbx7.at3;have bl:=hbx7.lt;(have hk4:k≤4000:=by omega);clear hbx7 how7 hb7 hxn hR hF2 hZ2 hbel2 hb0x hbw7 hb07 hs2 hn hzn hzn2 h1 h2 h3 h5 hM hs hF hZ hlk h2k H7;go_wp2_with(at_builtin;refine zf rfl (.tmp 80) (.tmp 82) _ rfl Tryz.underlying28 Tryz.eNode rfl (HOW.out.alloc _) rfl (news:=[.bool nd.leaf,.int .i64 nd.fact,.slice KU nd.cuts.length kucap,.slice K2 nd.kids.length k2cap]) rfl (zLt (cs:=[.bool nd.leaf,.int .i64 nd.fact,.slice KU nd.cuts.length kucap,.slice K2 nd.kids.length k2cap]) (t:=51) (g:=w7.heap.size) (Blk.new w7 51 #[.bool nd.leaf,.int .i64 nd.fact,.slice KU nd.cuts.length kucap,.slice K2 nd.kids.length k2cap])) zGX.out (by unfold maxLen;omega) (by omega) (Nat.zero_le _) ?_;intro v6 w6 hown6 hg6 hat6;obtain⟨g6,cap6,hv6⟩:=zAZ hown6;subst hv6;have hM6:=MKX.out _ hg6;have d0:=hM6.cell 0;have d1:=hM6.frozen 0;have d2:=hM6.lt);have HO7:=hid (HG.out _ _ hown6 hg6 hat6);clear hown6 hg6 hat6 HG MKX;go_wp2;go_roundw;(case rel=>exact⟨k+1,by omega,by go_num,HO7.out⟩);case measure=>simp[intOf];omega
     ·(obtain rfl:k=od.length:=by omega);rw[List.take_length]at hR;obtain⟨OA2,ocap2,hbo,hno⟩:=hR.nodes (by rw[List.length_map];omega);rw[List.length_map]at hbo hno;have hs2:w.heap.size<w2.heap.size:=Nat.lt_of_lt_of_le HW1.out.2.1.lt zh.out.size;have hxx:=HW1.out.2.1.of_block (hb1.block _ HW1.out.2.1.lt);have r0:=hxx.at0;have r0f:=hxx.frozen 0;have r0l:=hxx.lt;have o0:=hbo.at0;have ol:=hbo.lt
      have zHn:=hid (show zO (λb=>Z b∨w.heap.size≤b) (wx.setCell ⟨w.heap.size,0,none⟩ (.slice OA2 od.length ocap2)) (.slice OA2 od.length ocap2) (od.map (zAS all od))∧Below w.heap.size w (wx.setCell ⟨w.heap.size,0,none⟩ (.slice OA2 od.length ocap2)) from
       ⟨(hno.keep ((zA.refl _ _).setCell (p:=⟨w.heap.size,0,none⟩) (λ_ h=>by
        rcases h with h|h
        ·have:=hF2 _ h;simp at this;omega
        ·rcases hZ2 _ h with h|h
         ·have:=HT.out.liveZ _ h;simp at this
         ·simp at h;omega) _)).mono λb hb=>by
         rcases hb with h|h
         ·have:=hF2 _ h;exact Or.inr (by omega)
         ·rcases hZ2 _ h with h|h
          ·exact Or.inl h
          ·exact Or.inr (by omega),hb0.setCell (Nat.le_refl _) _⟩)
      have HXX:=hid hxx;clear hR hF2 hZ2 hbel hb1 hb0 hbo hno hs2 hxx;go_wp2;have hx:=HXX.out.set_ 0 (.slice OA2 od.length ocap2);have r1:(wx.setCell ⟨w.heap.size,0,none⟩ (.slice OA2 od.length ocap2)).cell? ⟨w.heap.size,0,none⟩=some (.slice OA2 od.length ocap2):=hx.cell 0;refine bodyPost_ret (v:= .tuple #[.agg #[.slice OA2 od.length ocap2],.int .i64 0]) (by simp[results,Tryz.results41,go_sem,r1]) rfl ⟨.slice OA2 od.length ocap2,?_,?_,zHn.out.2⟩
      ·rw[HE.out]
      ·rw[HE.out];exact zHn.out.1
def zLl(w2 wx:World)(Z:zD)(l:List zB):Prop:=
 ∃F2 Z2,RkT 30 wx w2.heap.size l F2 Z2∧(∀b,F2 b->w2.heap.size≤b)∧(∀b,Z2 b->Z b)∧Below w2.heap.size w2 wx
theorem zLl.new(w2:World)(Z:zD):zLl w2 (w2.alloc (.cells #[.slice none 0 0] 30)) Z []:=
 ⟨_,_,RkT.new 30 w2,λb h=>Nat.le_of_eq h.symm,λb h=>h.elim,zE w2 _⟩
theorem zQt(Z:zD)(v:Value)(g:List zB)(w:World)(hg:zO Z w v g)(hgl:g.length≤1000000)(hz:∀b,Z b->b<w.heap.size):
  Calls Tryz.prog 21 #[.agg #[v]] w λe w'=>∃v',e= .returned (.agg #[v'])∧zO (λb=>Z b∨w.heap.size≤b) w' v' (zF4 g)∧Below w.heap.size w w':=by
 obtain⟨A,cap,rfl,hcap,hlen,hat⟩:=hg.open_;have HAT:=hid hat;have HZ:=hid hz;obtain⟨w2,hw2⟩:∃w2,w2=(w.alloc (.cells #[.slice A g.length cap] 30)).alloc (.cells #[.slice none 0 0] 30):=⟨_,rfl⟩;have hs2:w2.heap.size=w.heap.size+1+1:=by rw[hw2];simp
 have hb2:Below w.heap.size w w2:=by rw[hw2];exact zAy w _ _
 have hbg:Blk w2 w.heap.size 30 #[.slice A g.length cap]:=by rw[hw2];exact(Blk.new w _ _).alloc _
 have hbr:Blk w2 (w.heap.size+1) 30 #[.slice none 0 0]:=by rw[hw2];exact Blk.new' (w.alloc (.cells #[.slice A g.length cap] 30)) _ _ (by simp)
 have HO0:=hid (zLl.new w2 Z);have zh:=hid (And.intro hb2 (And.intro hbg (And.intro hbr hs2)));have HW2:=hid hw2;clear hat hz hg hs2 hb2 hbg hbr hw2;go_enter Tryz.func21,Tryz.ntmps21
 go_upto_region 2 with fail
 rw[<-HW2.out];generalize w.heap.size+1+1=B at*;obtain⟨-,-,-,hBB⟩:=zh.out;subst hBB;go_wp2;go_loopw[4] (λix wx=>∃k:Nat,k≤g.length∧ix= .int .i64 k∧zLl w2 wx Z ((g.take k).map zDI)) (λix _=>g.length-(intOf ix).toNat);case atStart=>exact⟨0,Nat.zero_le _,rfl,HO0.out⟩
 case round=>
  rename World=>wx
  obtain⟨k,hk,rfl,F2,Z2,hR,hF2,hZ2,hbel⟩:=hrel;have hb0:Below w.heap.size w wx:=zh.out.1.trans (hbel.mono zh.out.1.size);have hbg:=zh.out.2.1.of_block (hbel.block _ zh.out.2.1.lt);have g0:=hbg.at0;have gl:=hbg.lt;by_cases hlt:k<g.length
  ·obtain⟨nb,noff,vcu,vki,rfl,hzb,hnb,c0,c1,c2,c3,hf,hcu,hki⟩:=HAT.out k hlt;replace c0:=brd hb0 c0 hnb;replace c1:=brd hb0 c1 hnb;replace c2:=brd hb0 c2 hnb;replace c3:=brd hb0 c3 hnb;have hnl:=lt_of_cell c0;(have hget:(g.take (k+1)).map zDI=(g.take k).map zDI++[zDI g[k]]:=by rw[List.take_succ_eq_append_getElem hlt,List.map_append];rfl);(have hk1:((k:Nat):Int)<(g.length:Int):=by omega);(have hk0:(0:Int)≤((k:Nat):Int):=by omega);obtain⟨KU,kucap,rfl,-⟩:=hcu.form;obtain⟨K,kcap,rfl,-⟩:=hki.form;have HND:=hid (And.intro hf (And.intro hcu (And.intro hki hget)));have HRR:=hid (And.intro hR (And.intro hF2 (And.intro hZ2 (And.intro hbel hb0))));clear hf hcu hki hget hR hF2 hZ2 hbel hb0 hbg;generalize g[k]=nd at*;by_cases hkn:nd.kids=[]
   ·(have e3:((nd.kids.length:Int)==0)=true:=by simp[hkn]);have HNN:=hid (show zDI nd=⟨!nd.leaf,nd.fact,nd.cuts,nd.kids⟩ from by unfold zDI;rw[if_pos hkn]);clear hkn;(go_upto_region 8 with fail);obtain⟨hR,hF2,hZ2,hbel2,hb0x⟩:=HRR.out;have hb7:Below wx.heap.size wx (wx.alloc (.cells #[.bool (!nd.leaf),.int .i64 nd.fact,.slice KU nd.cuts.length kucap,.slice K nd.kids.length kcap] 51)):=zE wx _;have hbx7:Blk (wx.alloc (.cells #[.bool (!nd.leaf),.int .i64 nd.fact,.slice KU nd.cuts.length kucap,.slice K nd.kids.length kcap] 51)) wx.heap.size 51 #[.bool (!nd.leaf),.int .i64 nd.fact,.slice KU nd.cuts.length kucap,.slice K nd.kids.length kcap]:=Blk.new wx _ _;generalize wx.alloc (.cells #[.bool (!nd.leaf),.int .i64 nd.fact,.slice KU nd.cuts.length kucap,.slice K nd.kids.length kcap] 51)=w7 at*;have hbw7:Below w2.heap.size w2 w7:=hbel2.trans (hb7.mono hbel2.size);have hb07:Below w.heap.size w w7:=hb0x.trans (hb7.mono hb0x.size);have hs2:w.heap.size≤w2.heap.size:=zh.out.1.size;have hn:zd Z w7 [.bool (!nd.leaf),.int .i64 nd.fact,.slice KU nd.cuts.length kucap,.slice K nd.kids.length kcap] ⟨(!nd.leaf),nd.fact,nd.cuts,nd.kids⟩:=⟨_,_,rfl,HND.out.1,HND.out.2.1.keep (.of_below hb07),HND.out.2.2.1.keep (.of_below hb07)⟩
    have hzn:∀x,Z x->¬F2 x∧x<w7.heap.size:=λx hx=>by
     have h1:=HZ.out x hx;exact⟨λh=>by have:=hF2 x h;omega,Nat.lt_of_lt_of_le h1 hb07.size⟩
    obtain⟨⟨vo,csl,h1,h2,h3,h5⟩,hM,hs,hF,hZ⟩:=hR.below hb7;(have hlk:((g.take k).map zDI).length =k:=by rw[List.length_map,List.length_take];omega);have h2k:=h2;rw[hlk]at h2k;obtain⟨OA2,ocap2,rfl,-,-,-⟩:=Row.of_own h2k (by decide);have o0:=h1.at0;have ol:=h1.lt;have zGX:=hid (zEy hn);have HOW:=hid h2k;have MKX:=hid (λ(w6:World)(hg:(w7.alloc (.cells #[.bool (!nd.leaf),.int .i64 nd.fact,.slice KU nd.cuts.length kucap,.slice K nd.kids.length kcap] 51)).grownBy w6 (Value.slice OA2 k ocap2).ownBlock)=>(h1.alloc (.cells #[.bool (!nd.leaf),.int .i64 nd.fact,.slice KU nd.cuts.length kucap,.slice K nd.kids.length kcap] 51)).grown hg (λe=>(h5 _ e).2 rfl))
    have HG:=hid (λ(w6:World)(v6:Value)(ho:w6.ownsRow 0 51 4 v6 (k+1) (csl.flatten++[.bool (!nd.leaf),.int .i64 nd.fact,.slice KU nd.cuts.length kucap,.slice K nd.kids.length kcap]))(hg:(w7.alloc (.cells #[.bool (!nd.leaf),.int .i64 nd.fact,.slice KU nd.cuts.length kucap,.slice K nd.kids.length kcap] 51)).grownBy w6 (Value.slice OA2 k ocap2).ownBlock)(ha:v6.ownBlock=(Value.slice OA2 k ocap2).ownBlock ∨v6.ownBlock=some (w7.alloc (.cells #[.bool (!nd.leaf),.int .i64 nd.fact,.slice KU nd.cuts.length kucap,.slice K nd.kids.length kcap] 51)).heap.size)=>
     (show zLl w2 (w6.setCell ⟨w2.heap.size,0,none⟩ v6) Z ((g.take (k+1)).map zDI) from by
      obtain⟨⟨F',hr,hF'⟩,-⟩:=zH2 (t:=30) (wa:=w7) (wx:=w7.alloc (.cells #[.bool (!nd.leaf),.int .i64 nd.fact,.slice KU nd.cuts.length kucap,.slice K nd.kids.length kcap] 51)) ((zA.refl _ _).alloc _) (by simp) h1 h3 h5 hM hs hF hZ hn hzn hg (by rw[hlk];exact ho) ha;refine⟨F',λx=>Z2 x∨Z x,by rw[HND.out.2.2.2,HNN.out];exact hr,λb hb=>(hF' b hb).elim (hF2 b) λh=>Nat.le_trans hbw7.size h,λb hb=>Or.elim hb (hZ2 b) id,?_⟩
      exact((hbw7.alloc hbw7.size _).grown hg (by have:=hbw7.size;simp;omega) (λb hb=>hF2 b (h5 b hb).1)).setCell (Nat.le_refl _) _))
    have b0:=hbx7.at0;have b1:=hbx7.at1;have b2:=hbx7.at2;have b3:=hbx7.at3;have bl:=hbx7.lt;clear hbx7 hb7 hR hF2 hZ2 hbel2 hb0x hbw7 hb07 hs2 hn hzn h1 h2 h3 h5 hM hs hF hZ hlk h2k c0 c1 c2 c3 g0 gl hnl;go_wp2_with(at_builtin;refine zf rfl (.tmp 27) (.tmp 29) _ rfl Tryz.underlying28 Tryz.eNode rfl (HOW.out.alloc _) rfl (news:=[.bool (!nd.leaf),.int .i64 nd.fact,.slice KU nd.cuts.length kucap,.slice K nd.kids.length kcap]) rfl (zLt (cs:=[.bool (!nd.leaf),.int .i64 nd.fact,.slice KU nd.cuts.length kucap,.slice K nd.kids.length kcap]) (t:=51) (g:=w7.heap.size) (Blk.new w7 51 #[.bool (!nd.leaf),.int .i64 nd.fact,.slice KU nd.cuts.length kucap,.slice K nd.kids.length kcap])) zGX.out (by unfold maxLen;omega) (by omega) (Nat.zero_le _) ?_;intro v6 w6 hown6 hg6 hat6;obtain⟨g6,cap6,hv6⟩:=zAZ hown6;subst hv6;have hM6:=MKX.out _ hg6;have d0:=hM6.cell 0;have d1:=hM6.frozen 0;have d2:=hM6.lt);have HO7:=hid (HG.out _ _ hown6 hg6 hat6);clear hown6 hg6 hat6 HG MKX;go_wp2;go_roundw;(case rel=>exact⟨k+1,by omega,by go_num,HO7.out⟩);case measure=>simp[intOf];omega
   ·(have e3:((nd.kids.length:Int)==0)=false:=by simp[hkn]);have HNN:=hid (show zDI nd=⟨nd.leaf,nd.fact,nd.cuts,nd.kids⟩ from by unfold zDI;rw[if_neg hkn]);clear hkn;(go_upto_region 8 with fail);obtain⟨hR,hF2,hZ2,hbel2,hb0x⟩:=HRR.out;have hb7:Below wx.heap.size wx (wx.alloc (.cells #[.bool nd.leaf,.int .i64 nd.fact,.slice KU nd.cuts.length kucap,.slice K nd.kids.length kcap] 51)):=zE wx _;have hbx7:Blk (wx.alloc (.cells #[.bool nd.leaf,.int .i64 nd.fact,.slice KU nd.cuts.length kucap,.slice K nd.kids.length kcap] 51)) wx.heap.size 51 #[.bool nd.leaf,.int .i64 nd.fact,.slice KU nd.cuts.length kucap,.slice K nd.kids.length kcap]:=Blk.new wx _ _;generalize wx.alloc (.cells #[.bool nd.leaf,.int .i64 nd.fact,.slice KU nd.cuts.length kucap,.slice K nd.kids.length kcap] 51)=w7 at*;have hbw7:Below w2.heap.size w2 w7:=hbel2.trans (hb7.mono hbel2.size);have hb07:Below w.heap.size w w7:=hb0x.trans (hb7.mono hb0x.size);have hs2:w.heap.size≤w2.heap.size:=zh.out.1.size;have hn:zd Z w7 [.bool nd.leaf,.int .i64 nd.fact,.slice KU nd.cuts.length kucap,.slice K nd.kids.length kcap] ⟨nd.leaf,nd.fact,nd.cuts,nd.kids⟩:=⟨_,_,rfl,HND.out.1,HND.out.2.1.keep (.of_below hb07),HND.out.2.2.1.keep (.of_below hb07)⟩
    have hzn:∀x,Z x->¬F2 x∧x<w7.heap.size:=λx hx=>by
     have h1:=HZ.out x hx;exact⟨λh=>by have:=hF2 x h;omega,Nat.lt_of_lt_of_le h1 hb07.size⟩
    obtain⟨⟨vo,csl,h1,h2,h3,h5⟩,hM,hs,hF,hZ⟩:=hR.below hb7;(have hlk:((g.take k).map zDI).length =k:=by rw[List.length_map,List.length_take];omega);have h2k:=h2;rw[hlk]at h2k;obtain⟨OA2,ocap2,rfl,-,-,-⟩:=Row.of_own h2k (by decide);have o0:=h1.at0;have ol:=h1.lt;have zGX:=hid (zEy hn);have HOW:=hid h2k;have MKX:=hid (λ(w6:World)(hg:(w7.alloc (.cells #[.bool nd.leaf,.int .i64 nd.fact,.slice KU nd.cuts.length kucap,.slice K nd.kids.length kcap] 51)).grownBy w6 (Value.slice OA2 k ocap2).ownBlock)=>(h1.alloc (.cells #[.bool nd.leaf,.int .i64 nd.fact,.slice KU nd.cuts.length kucap,.slice K nd.kids.length kcap] 51)).grown hg (λe=>(h5 _ e).2 rfl))
    have HG:=hid (λ(w6:World)(v6:Value)(ho:w6.ownsRow 0 51 4 v6 (k+1) (csl.flatten++[.bool nd.leaf,.int .i64 nd.fact,.slice KU nd.cuts.length kucap,.slice K nd.kids.length kcap]))(hg:(w7.alloc (.cells #[.bool nd.leaf,.int .i64 nd.fact,.slice KU nd.cuts.length kucap,.slice K nd.kids.length kcap] 51)).grownBy w6 (Value.slice OA2 k ocap2).ownBlock)(ha:v6.ownBlock=(Value.slice OA2 k ocap2).ownBlock ∨v6.ownBlock=some (w7.alloc (.cells #[.bool nd.leaf,.int .i64 nd.fact,.slice KU nd.cuts.length kucap,.slice K nd.kids.length kcap] 51)).heap.size)=>
     (show zLl w2 (w6.setCell ⟨w2.heap.size,0,none⟩ v6) Z ((g.take (k+1)).map zDI) from by
      obtain⟨⟨F',hr,hF'⟩,-⟩:=zH2 (t:=30) (wa:=w7) (wx:=w7.alloc (.cells #[.bool nd.leaf,.int .i64 nd.fact,.slice KU nd.cuts.length kucap,.slice K nd.kids.length kcap] 51)) ((zA.refl _ _).alloc _) (by simp) h1 h3 h5 hM hs hF hZ hn hzn hg (by rw[hlk];exact ho) ha;refine⟨F',λx=>Z2 x∨Z x,by rw[HND.out.2.2.2,HNN.out];exact hr,λb hb=>(hF' b hb).elim (hF2 b) λh=>Nat.le_trans hbw7.size h,λb hb=>Or.elim hb (hZ2 b) id,?_⟩
      exact((hbw7.alloc hbw7.size _).grown hg (by have:=hbw7.size;simp;omega) (λb hb=>hF2 b (h5 b hb).1)).setCell (Nat.le_refl _) _))
    have b0:=hbx7.at0;have b1:=hbx7.at1;have b2:=hbx7.at2;have b3:=hbx7.at3;have bl:=hbx7.lt;clear hbx7 hb7 hR hF2 hZ2 hbel2 hb0x hbw7 hb07 hs2 hn hzn h1 h2 h3 h5 hM hs hF hZ hlk h2k c0 c1 c2 c3 g0 gl hnl;go_wp2_with(at_builtin;refine zf rfl (.tmp 27) (.tmp 29) _ rfl Tryz.underlying28 Tryz.eNode rfl (HOW.out.alloc _) rfl (news:=[.bool nd.leaf,.int .i64 nd.fact,.slice KU nd.cuts.length kucap,.slice K nd.kids.length kcap]) rfl (zLt (cs:=[.bool nd.leaf,.int .i64 nd.fact,.slice KU nd.cuts.length kucap,.slice K nd.kids.length kcap]) (t:=51) (g:=w7.heap.size) (Blk.new w7 51 #[.bool nd.leaf,.int .i64 nd.fact,.slice KU nd.cuts.length kucap,.slice K nd.kids.length kcap])) zGX.out (by unfold maxLen;omega) (by omega) (Nat.zero_le _) ?_;intro v6 w6 hown6 hg6 hat6;obtain⟨g6,cap6,hv6⟩:=zAZ hown6;subst hv6;have hM6:=MKX.out _ hg6;have d0:=hM6.cell 0;have d1:=hM6.frozen 0;have d2:=hM6.lt);have HO7:=hid (HG.out _ _ hown6 hg6 hat6);clear hown6 hg6 hat6 HG MKX;go_wp2;go_roundw;(case rel=>exact⟨k+1,by omega,by go_num,HO7.out⟩);case measure=>simp[intOf];omega
  ·(obtain rfl:k=g.length:=by omega);rw[List.take_length]at hR;obtain⟨OA2,ocap2,hbo,hno⟩:=hR.nodes (by rw[List.length_map];omega);rw[List.length_map]at hbo hno;have hs2:w.heap.size+1<w2.heap.size:=zh.out.2.2.1.lt;have hxx:=zh.out.2.2.1.of_block (hbel.block _ zh.out.2.2.1.lt);have r0:=hxx.at0;have r0f:=hxx.frozen 0;have r0l:=hxx.lt;have o0:=hbo.at0;have ol:=hbo.lt
   have zHn:=hid (show zO (λb=>Z b∨w.heap.size≤b) (wx.setCell ⟨w.heap.size+1,0,none⟩ (.slice OA2 g.length ocap2)) (.slice OA2 g.length ocap2) (zF4 g)∧Below w.heap.size w (wx.setCell ⟨w.heap.size+1,0,none⟩ (.slice OA2 g.length ocap2)) from
    ⟨(hno.keep ((zA.refl _ _).setCell (p:=⟨w.heap.size+1,0,none⟩) (λ_ h=>by
     rcases h with h|h
     ·have:=hF2 _ h;simp at this;omega
     ·have:=HZ.out _ (hZ2 _ h);simp at this;omega) _)).mono λb hb=>by
      rcases hb with h|h
      ·have:=hF2 _ h;exact Or.inr (by omega)
      ·exact Or.inl (hZ2 _ h),hb0.setCell (Nat.le_succ _) _⟩)
   have HXX:=hid hxx;clear hR hF2 hZ2 hbel hb0 hbo hno hs2 hxx hbg;go_wp2;have hx:=HXX.out.set_ 0 (.slice OA2 g.length ocap2);have r1:(wx.setCell ⟨w.heap.size+1,0,none⟩ (.slice OA2 g.length ocap2)).cell? ⟨w.heap.size+1,0,none⟩=some (.slice OA2 g.length ocap2):=hx.cell 0;refine bodyPost_ret (v:= .agg #[.slice OA2 g.length ocap2]) (by simp[results,Tryz.results21,go_sem,r1]) rfl ⟨.slice OA2 g.length ocap2,rfl,zHn.out.1,zHn.out.2⟩
end Go.Proofs.YtonmdbdopchkaaaGreatDoor
