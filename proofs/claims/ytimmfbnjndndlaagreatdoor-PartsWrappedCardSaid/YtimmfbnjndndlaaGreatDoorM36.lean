/- Texts PO PS PT. -/
import Derived.Test.YtimmfbnjndndlaaGreatDoorM33
import Derived.Test.YtimmfbnjndndlaaGreatDoorM14
set_option linter.all false
namespace Go.Proofs.YtimmfbnjndndlaaGreatDoor
open Go.RowKit
theorem find_decomp{α:Type}{q:α->Bool}{l:List α}{a:α}(h:l.find? q=some a):∃i,∃hi:i<l.length,l[i]=a∧q a=true∧∀j(hj:j<l.length),j<i->q l[j]=false:=by
 rw[List.find?_eq_some_iff_getElem]at h;obtain⟨h1,i,hi,e,h2⟩:=h;exact⟨i,hi,e,h1,λj hj hji=>by have:=h2 j hji;simpa using this⟩
theorem readyP_iff{out:List ByteArray}{p:ProdD}:readyP out p=true↔p.id∉out∧∀c∈partsOf p,c∈out:=by
 unfold readyP;simp[List.all_eq_true]
structure OrdI (l:List ProdD) (out:List ByteArray):Prop where
 nodup:out.Nodup
 ids:∀x∈out,x∈idsP l
 step:∀n(hn:n<out.length),∃i,∃hi:i<l.length,l[i].id =out[n]∧readyP (out.take n) l[i]=true∧∀j(hj:j<l.length),j<i->readyP (out.take n) l[j]=false
theorem OrdI.nil(l:List ProdD):OrdI l []:=⟨List.nodup_nil,by simp,λn hn=>absurd hn (Nat.not_lt_zero _)⟩
theorem OrdI.snoc{l:List ProdD}{out:List ByteArray}{p:ProdD}(h:OrdI l out)(hf:l.find? (readyP out)=some p):OrdI l (out++[p.id]):=by
 obtain⟨i,hi,e,hr,hb⟩:=find_decomp hf;obtain⟨r1,r2⟩:=readyP_iff.1 hr;refine⟨?_,?_,?_⟩
 ·rw[List.nodup_append];refine⟨h.nodup,by simp,λa ha b hb'=> ?_⟩;rw[List.mem_singleton.1 hb'];intro e';subst e';exact r1 ha
 ·intro x hx;rcases List.mem_append.1 hx with hx|hx
  ·exact h.ids x hx
  ·rw[List.mem_singleton.1 hx,<-e];exact List.mem_map_of_mem (List.getElem_mem hi)
 ·intro n hn;rw[List.length_append,List.length_singleton]at hn;rcases Nat.lt_or_ge n out.length with hlt|hge
  ·obtain⟨j,hj,e1,e2,e3⟩:=h.step n hlt;have et:(out++[p.id]).take n=out.take n:=List.take_append_of_le_length (by omega);refine⟨j,hj,?_,?_,?_⟩
   ·rw[e1,List.getElem_append_left hlt]
   ·rw[et];exact e2
   ·rw[et];exact e3
  ·(have en:n=out.length:=by omega);subst en;(have et:(out++[p.id]).take out.length=out:=by rw[List.take_append_of_le_length (Nat.le_refl _),List.take_length]);refine⟨i,hi,?_,?_,?_⟩
   ·rw[e];simp
   ·rw[et,e];exact hr
   ·rw[et];exact hb
theorem ordGo_ok{l:List ProdD}:∀{n:Nat}{out o:List ByteArray},OrdI l out->ordGo l n out=some o->OrdI l o∧o.length=out.length+n
 |0,out,o,h,e=>by
  simp only[ordGo,Option.some.injEq]at e;subst e;exact⟨h,rfl⟩
 |n+1,out,o,h,e=>by
  unfold ordGo at e;split at e
  ·cases e
  ·rename_i p hp;obtain⟨h1,h2⟩:=ordGo_ok (h.snoc hp) e;refine⟨h1,?_⟩;rw[h2,List.length_append,List.length_singleton];omega
structure OrdOk (l:List ProdD) (o:List ByteArray):Prop where
 ord:OrdI l o
 len:o.length=l.length
 ids:(idsP l).Nodup
 parts:∀p∈l,(partsOf p).Nodup
 known:∀p∈l,∀c∈partsOf p,c∈idsP l
 small:largeP l=false
 even:l.any oddP=false
theorem orderP_ok{l:List ProdD}{o:List ByteArray}(h:orderP l=(o,0)):OrdOk l o:=by
 unfold orderP at h;split at h
 ·injection h with _ h;cases h
 split at h
 ·injection h with _ h;cases h
 split at h
 ·injection h with _ h;cases h
 split at h
 ·injection h with _ h;cases h
 split at h
 ·injection h with _ h;cases h
 rename_i h1 h2 h3 h4 _ o' h5;injection h with e _;subst e;obtain⟨a,b⟩:=ordGo_ok (OrdI.nil l) h5;have h3:onceP l=true:=by simpa using h3
 have h4:knownP l=true:=by simpa using h4
 unfold onceP at h3;unfold knownP at h4;simp only[Bool.and_eq_true,decide_eq_true_eq,List.all_eq_true]at h3 h4;exact⟨a,by simpa using b,h3.1,h3.2,h4,by simpa using h1,by simpa using h2⟩
theorem mem_of_nodup_len{α:Type}[DecidableEq α]{a b:List α}(ha:a.Nodup)(hab:∀x∈a,x∈b)(hl:b.length≤a.length):∀x∈b,x∈a:=by
 intro x hx;apply Classical.byContradiction;intro hn;have h1:(x::a).Nodup :=List.nodup_cons.2 ⟨hn,ha⟩
 have h2:(x::a) ⊆ b:=by
  intro y hy;rcases List.mem_cons.1 hy with rfl|hy
  ·exact hx
  ·exact hab y hy
 have:=List.Nodup.length_le_of_subset h1 h2;rw[List.length_cons]at this;omega
theorem OrdOk.all{l:List ProdD}{o:List ByteArray}(h:OrdOk l o):∀x∈idsP l,x∈o:=
 mem_of_nodup_len h.ord.nodup h.ord.ids (by unfold idsP;rw[List.length_map,h.len];exact Nat.le_refl _)
theorem nodup_inj{α:Type}{l:List α}(h:l.Nodup){i j:Nat}(hi:i<l.length)(hj:j<l.length)(e:l[i]=l[j]):i=j:=
 (List.getElem?_inj hi h).1 (by rw[List.getElem?_eq_getElem hi,List.getElem?_eq_getElem hj,e])
theorem ids_get{l:List ProdD}(h:(idsP l).Nodup){i j:Nat}(hi:i<l.length)(hj:j<l.length)(e:l[i].id =l[j].id):i=j:=by
 unfold idsP at h;have h1:i<(l.map ProdD.id).length :=by rw[List.length_map];exact hi
 have h2:j<(l.map ProdD.id).length :=by rw[List.length_map];exact hj
 refine nodup_inj h h1 h2 ?_;rw[List.getElem_map,List.getElem_map];exact e
def rk(o:List ByteArray)(x:ByteArray):Nat:=o.findIdx λy=>decide (y=x)
theorem rk_lt{o:List ByteArray}{x:ByteArray}(h:x∈o):rk o x<o.length:=List.findIdx_lt_length.2 ⟨x,h,by simp⟩
theorem get_rk{o:List ByteArray}{x:ByteArray}(h:x∈o):o[rk o x]'(rk_lt h)=x:=by
 have:=List.findIdx_getElem (p:=λy:ByteArray=>decide (y=x)) (w:=rk_lt h);exact of_decide_eq_true this
theorem rk_get{o:List ByteArray}(h:o.Nodup){n:Nat}(hn:n<o.length):rk o o[n]=n:=
 nodup_inj h (rk_lt (List.getElem_mem hn)) hn (get_rk (List.getElem_mem hn))
theorem OrdOk.down{l:List ProdD}{o:List ByteArray}(h:OrdOk l o){p:ProdD}(hp:p∈l){c:ByteArray}(hc:c∈partsOf p):rk o c<rk o p.id:=by
 have hm:p.id∈o:=h.all _ (List.mem_map_of_mem hp);obtain⟨i,hi,e1,e2,_⟩:=h.ord.step (rk o p.id) (rk_lt hm);rw[get_rk hm]at e1;obtain⟨k,hk,rfl⟩:=List.getElem_of_mem hp;have:=ids_get h.ids hi hk e1;subst this;have hct:=(readyP_iff.1 e2).2 c hc;obtain⟨j,hj,e⟩:=List.getElem_of_mem hct;rw[List.length_take]at hj;rw[List.getElem_take]at e;rw[<-e,rk_get h.ord.nodup (by omega)];omega
theorem OrdOk.soon{l:List ProdD}{o:List ByteArray}(h:OrdOk l o){i:Nat}(hi:i<l.length){n:Nat}(hn:n<rk o l[i].id)(hr:∀c∈partsOf l[i],rk o c<n):
  ∃j,∃hj:j<l.length,l[j].id =o[n]'(Nat.lt_trans hn (rk_lt (h.all _ (List.mem_map_of_mem (List.getElem_mem hi)))))∧j≤i:=by
 have hm:l[i].id ∈o:=h.all _ (List.mem_map_of_mem (List.getElem_mem hi));have hno:n<o.length:=Nat.lt_trans hn (rk_lt hm);obtain⟨j,hj,e1,e2,e3⟩:=h.ord.step n hno;refine⟨j,hj,e1,?_⟩;rcases Nat.lt_or_ge i j with hlt|hge
 ·exfalso;have:=e3 i hi hlt
  have hrd:readyP (o.take n) l[i]=true:=by
   refine readyP_iff.2 ⟨λhx=> ?_,λc hc=> ?_⟩
   ·obtain⟨k,hk,e⟩:=List.getElem_of_mem hx;rw[List.length_take]at hk;rw[List.getElem_take]at e;rw[<-e,rk_get h.ord.nodup (by omega)]at hn;omega
   ·have hc':=h.known _ (List.getElem_mem hi) c hc;have hco:=h.all _ hc';have hlt:=hr c hc;rw[<-get_rk hco];exact List.mem_take_iff_getElem.2 ⟨rk o c,by omega,rfl⟩
  rw[hrd]at this;cases this
 ·exact hge
def prodOf(l:List ProdD)(id:ByteArray):Option ProdD:=l.find? (λp=>decide (p.id=id))
theorem prodOf_some{l:List ProdD}{id:ByteArray}{p:ProdD}(h:prodOf l id=some p):p∈l∧p.id=id:=by
 have h1:=List.mem_of_find?_eq_some h;have h2:=List.find?_some h;exact⟨h1,by simpa using h2⟩
theorem prodOf_none{l:List ProdD}{id:ByteArray}(h:prodOf l id=none):id∉idsP l:=by
 unfold prodOf at h;rw[List.find?_eq_none]at h;intro hm;obtain⟨p,hp,e⟩:=List.mem_map.1 hm;exact h p hp (by simpa using e)
theorem prodOf_mem{l:List ProdD}{id:ByteArray}(h:id∈idsP l):∃p,prodOf l id=some p:=by
 cases hp:prodOf l id with
 |none=>exact absurd h (prodOf_none hp)
 |some p=>exact⟨p,rfl⟩
theorem prodOf_get{l:List ProdD}(hn:(idsP l).Nodup){p:ProdD}(hp:p∈l):prodOf l p.id=some p:=by
 obtain⟨q,hq⟩:=prodOf_mem (List.mem_map_of_mem (f:=ProdD.id) hp);obtain⟨h1,h2⟩:=prodOf_some hq;obtain⟨i,hi,rfl⟩:=List.getElem_of_mem hp;obtain⟨j,hj,rfl⟩:=List.getElem_of_mem h1;have:=ids_get hn hj hi h2;subst this;exact hq
def foldT(T:CompD->Rt × Int)(L:List CompD)(x:Rt × Int):Rt × Int:=L.foldl (λx c=>plusR x c.cnt (T c)) x
theorem foldT_congr{T T':CompD->Rt × Int}:∀{L:List CompD}(x:Rt × Int),(∀c∈L,T c=T' c)->foldT T L x=foldT T' L x
 |[],_,_=>rfl
 |c::L,x,h=>by
  unfold foldT;rw[List.foldl_cons,List.foldl_cons,h c (List.mem_cons_self ..)];exact foldT_congr (L:=L) _ λd hd=>h d (List.mem_cons_of_mem _ hd)
theorem totS_succ(l:List ProdD)(of:ProdD->(Rt × Int) × Bool)(n:Nat)(id:ByteArray):
  totS l of (n+1) id=match prodOf l id with|none=>(rt0,0)|some p=>if(of p).2 then(of p).1 else foldT (λc=>totS l of n c.prod) p.parts (of p).1:=rfl
theorem comp_part{p:ProdD}{c:CompD}(h:c∈p.parts):c.prod∈partsOf p:=List.mem_map_of_mem h
theorem totS_fuel{l:List ProdD}{of:ProdD->(Rt × Int) × Bool}{f:ByteArray->Nat}(hd:∀p∈l,∀c∈partsOf p,f c<f p.id):
  ∀n m id,f id<n->f id<m->totS l of n id=totS l of m id
 |0,_,_,h,_=>absurd h (Nat.not_lt_zero _)
 | _+1,0,_,_,h=>absurd h (Nat.not_lt_zero _)
 |n+1,m+1,id,h1,h2=>by
  rw[totS_succ,totS_succ]
  cases hp:prodOf l id with
  |none=>rfl
  |some p=>
   obtain⟨q1,q2⟩:=prodOf_some hp;simp only;split
   ·rfl
   ·refine foldT_congr _ λc hc=>totS_fuel hd n m _ ?_ ?_<;>
    ·have:=hd p q1 _ (comp_part hc);rw[q2]at this;omega
theorem totS_eq{l:List ProdD}{o:List ByteArray}(h:OrdOk l o)(of:ProdD->(Rt × Int) × Bool){id:ByteArray}{p:ProdD}(hp:prodOf l id=some p):
  totS l of (l.length+1) id=if(of p).2 then(of p).1 else foldT (λc=>totS l of (l.length+1) c.prod) p.parts (of p).1:=by
 rw[totS_succ,hp];obtain⟨q1,q2⟩:=prodOf_some hp;simp only;split
 ·rfl
 ·refine foldT_congr _ λc hc=>totS_fuel (f:=rk o) (λp hp c hc=>h.down hp hc) _ _ _ ?_ ?_<;>
  ·have:=rk_lt (h.all _ (h.known _ q1 _ (comp_part hc)));rw[h.len]at this;omega
theorem mulR_cases(a b:Rt):(longR a=false∧longR b=false∧mulR a b=(prodQ a b,0))∨mulR a b=(rt0,2):=by
 unfold mulR;cases longR a<;>cases longR b<;>simp
theorem addR_cases(a b:Rt):(longR a=false∧longR b=false∧addR a b=(sumR a b,0))∨addR a b=(rt0,2):=by
 unfold addR;cases longR a<;>cases longR b<;>simp
theorem plusR_ok{x y:Rt × Int}{n:Int}(h:(plusR x n y).2=0):x.2=0∧y.2=0∧plusR x n y=(sumR x.1 (prodQ (ofR n 1) y.1),0):=by
 unfold plusR at h⊢;split at h
 ·contradiction
 ·rename_i hx;split at h
  ·contradiction
  ·rename_i hy;rw[if_neg hx,if_neg hy];rcases mulR_cases (ofR n 1) y.1 with⟨_,_,hm⟩|hm
   ·rw[hm]at h⊢;simp only[ne_eq,not_true_eq_false,if_false]at h⊢;rcases addR_cases x.1 (prodQ (ofR n 1) y.1)with⟨_,_,ha⟩|ha
    ·exact⟨by simpa using hx,by simpa using hy,ha⟩
    ·rw[ha]at h;cases h
   ·rw[hm]at h;simp at h
theorem plusR_err{x y:Rt × Int}{n:Int}(h:(plusR x n y).2≠0):(x.2≠0∧(plusR x n y).2=x.2)∨(x.2=0∧y.2≠0∧(plusR x n y).2=y.2)∨(plusR x n y).2=2:=by
 unfold plusR at h⊢;by_cases hx:x.2≠0
 ·rw[if_pos hx];exact .inl ⟨hx,rfl⟩
 ·rw[if_neg hx]at h⊢;by_cases hy:y.2≠0
  ·rw[if_pos hy];exact .inr (.inl ⟨by simpa using hx,hy,rfl⟩)
  ·rw[if_neg hy]at h⊢;refine .inr (.inr ?_);rcases mulR_cases (ofR n 1) y.1 with⟨_,_,hm⟩|hm
   ·rw[hm]at h⊢;simp only[ne_eq,not_true_eq_false,if_false]at h⊢;rcases addR_cases x.1 (prodQ (ofR n 1) y.1)with⟨_,_,ha⟩|ha
    ·rw[ha]at h;exact absurd rfl h
    ·rw[ha]
   ·rw[hm];simp
def sumQ(T:CompD->Rat):List CompD->Rat
 |[]=>0
 |c::L=>(c.cnt:Rat)*T c+sumQ T L
theorem plusR_q{x y:Rt × Int}{n:Int}(h:(plusR x n y).2=0)(hx:0<x.1.den)(hy:0<y.1.den):Low (plusR x n y).1∧(plusR x n y).1.toQ =x.1.toQ+(n:Rat)*y.1.toQ:=by
 obtain⟨_,_,e⟩:=plusR_ok h;have hn:=ofR_den (n:=n) (d:=1) (by decide);have hp:=prodQ_low hn hy;rw[e];exact⟨sumR_low hx hp.den,by rw[sumR_q hx hp.den,prodQ_q hn hy,ofR_q]⟩
theorem foldT_ok{T:CompD->Rt × Int}:∀{L:List CompD}{x:Rt × Int},(∀c∈L,(T c).2=0->0<(T c).1.den)->(x.2=0->Low x.1)->(foldT T L x).2=0->
  x.2=0∧(∀c∈L,(T c).2=0)∧Low (foldT T L x).1∧(foldT T L x).1.toQ =x.1.toQ+sumQ (λc=>(T c).1.toQ) L
 |[],x,_,hx,h=>⟨h,by simp,hx h,by show x.1.toQ=x.1.toQ+0;rw[Rat.add_zero]⟩
 |c::L,x,hT,hx,h=>by
  have hc:=hT c (List.mem_cons_self ..)
  have hs:(plusR x c.cnt (T c)).2=0->Low (plusR x c.cnt (T c)).1:=λh0=>by
   obtain⟨a,b,_⟩:=plusR_ok h0;exact(plusR_q h0 (hx a).den (hc b)).1
  obtain⟨h1,h2,h3,h4⟩:=foldT_ok (T:=T) (L:=L) (x:=plusR x c.cnt (T c)) (λd hd=>hT d (List.mem_cons_of_mem _ hd)) hs h;obtain⟨a,b,_⟩:=plusR_ok h1;refine⟨a,?_,h3,?_⟩
  ·intro d hd;rcases List.mem_cons.1 hd with rfl|hd
   ·exact b
   ·exact h2 d hd
  ·have e:=(plusR_q h1 (hx a).den (hc b)).2;show(foldT T L (plusR x c.cnt (T c))).1.toQ =_;rw[h4,e];show _=x.1.toQ+((c.cnt:Rat)*(T c).1.toQ +sumQ (λc=>(T c).1.toQ) L);rw[Rat.add_assoc]
theorem foldT_err{T:CompD->Rt × Int}:∀{L:List CompD}{x:Rt × Int},(foldT T L x).2≠0->
  (x.2≠0∧(foldT T L x).2=x.2)∨(∃c∈L,(T c).2≠0∧(foldT T L x).2=(T c).2)∨(foldT T L x).2=2
 |[],x,h=> .inl ⟨h,rfl⟩
 |c::L,x,h=>by
  have e:foldT T (c::L) x=foldT T L (plusR x c.cnt (T c)):=rfl;rw[e]at h⊢;rcases foldT_err (L:=L) h with⟨h1,h2⟩|⟨d,hd,h1,h2⟩|h1
  ·rw[h2];rcases plusR_err h1 with⟨h3,h4⟩|⟨_,h3,h4⟩|h3
   ·exact .inl ⟨h3,h4⟩
   ·exact .inr (.inl ⟨c,List.mem_cons_self ..,h3,h4⟩)
   ·exact .inr (.inr h3)
  ·exact .inr (.inl ⟨d,List.mem_cons_of_mem _ hd,h1,h2⟩)
  ·exact .inr (.inr h1)
theorem foldT_bad{T:CompD->Rt × Int}:∀{L:List CompD}{x:Rt × Int},x.2≠0->foldT T L x=x
 |[],_,_=>rfl
 |c::L,x,h=>by
  have e:foldT T (c::L) x=foldT T L (plusR x c.cnt (T c)):=rfl;have e2:plusR x c.cnt (T c)=x:=by unfold plusR;rw[if_pos h]
  rw[e,e2,foldT_bad h]
theorem firstE_zero{t:TarD}:∀{l:List ProdD},firstE t l=0->∀p∈l,(classT t p.cas).2=0
 |[],_=>by simp
 |p::r,h=>by
  unfold firstE at h;split at h
  ·contradiction
  ·rename_i h5;intro q hq;rcases List.mem_cons.1 hq with rfl|hq
   ·simpa using h5
   ·exact firstE_zero h q hq
theorem checkP_ok{t:TarD}{l:List ProdD}(h:checkP t l=0):validT t=true∧(∀p∈l,badP t p=false)∧(∃o,OrdOk l o)∧∀p∈l,(classT t p.cas).2=0:=by
 unfold checkP at h;split at h
 ·cases h
 rename_i h1;split at h
 ·cases h
 split at h
 ·cases h
 rename_i h3;split at h
 ·contradiction
 rename_i h4;refine⟨by simpa using h1,λp hp=> ?_,?_,?_⟩
 ·have h3:l.any (badP t)=false:=by simpa using h3
  rw[List.any_eq_false]at h3;simpa using h3 p hp
 ·have h4:(orderP l).2=0:=by simpa using h4
  exact⟨(orderP l).1,orderP_ok (by rw[<-h4])⟩
 ·exact firstE_zero h
theorem badP_no{t:TarD}{p:ProdD}(h:badP t p=false):oddP p=false∧amtOk p.cur p.units=true∧0≤p.units∧fits t.dom p.cas=true:=by
 unfold badP at h;simp only[Bool.or_eq_false_iff,Bool.not_eq_false',decide_eq_false_iff_not,Int.not_lt]at h;exact⟨h.1.1.1,h.1.1.2,h.1.2,h.2⟩
theorem validRates_ok{l:List RateD}{base:ByteArray}(h:validRates l base=true):curOk base=true∧∀x∈l,rateOk base x=true:=by
 unfold validRates at h;simp only[Bool.and_eq_true,List.all_eq_true]at h;exact⟨h.1.1.1,h.1.2⟩
theorem bestStep_mem{cur:ByteArray}{day:Int}{o:Option RateD}{x y:RateD}(h:bestStep cur day o x=some y):y=x∨o=some y:=by
 unfold bestStep at h;split at h
 ·split at h
  ·injection h with h;exact .inl h.symm
  ·split at h
   ·injection h with h;exact .inl h.symm
   ·exact .inr (by rw[h])
 ·exact .inr h
theorem bestR_fold{cur:ByteArray}{day:Int}:∀{l:List RateD}{o:Option RateD}{y:RateD},l.foldl (bestStep cur day) o=some y->y∈l∨o=some y
 |[],_,_,h=> .inr h
 |x::l,o,y,h=>by
  rw[List.foldl_cons]at h;rcases bestR_fold h with h1|h1
  ·exact .inl (List.mem_cons_of_mem _ h1)
  ·rcases bestStep_mem h1 with rfl|h2
   ·exact .inl (List.mem_cons_self ..)
   ·exact .inr h2
theorem bestR_mem{l:List RateD}{cur:ByteArray}{day:Int}{y:RateD}(h:bestR l cur day=some y):y∈l:=by
 rcases bestR_fold h with h|h
 ·exact h
 ·cases h
theorem findR_pos{l:List RateD}{base cur:ByteArray}{day:Int}(h:(findR l base cur day).2=0):1≤(findR l base cur day).1.num ∧(findR l base cur day).1.num ≤1000000∧1≤(findR l base cur day).1.den ∧(findR l base cur day).1.den ≤1000000:=by
 unfold findR at h⊢;split at h
 ·cases h
 rename_i h1;rw[if_neg h1];split at h
 ·rename_i h2;rw[if_pos h2];exact⟨by simp,by simp,by simp,by simp⟩
 rename_i h2;rw[if_neg h2]
 cases hb:bestR l cur day with
 |none=>rw[hb]at h;cases h
 |some x=>
  have h1:(validRates l base&&curOk cur&&dayOk day)=true:=eq_true_of_ne_false h1;simp only[Bool.and_eq_true]at h1;have:=(validRates_ok h1.1.1).2 x (bestR_mem hb);unfold rateOk posOk at this;simp only[Bool.and_eq_true,decide_eq_true_eq]at this;exact⟨this.1.2.1,this.1.2.2,this.2.1,this.2.2⟩
theorem convR_low{l:List RateD}{base cur tc:ByteArray}{u day:Int}(h:(convR l base cur u tc day).2=0):Low (convR l base cur u tc day).1:=by
 unfold convR at h⊢;split at h
 ·cases h
 rename_i h1;split at h
 ·contradiction
 rename_i h2;split at h
 ·contradiction
 rename_i h3;rw[if_neg h1,if_neg h2,if_neg h3];have p1:=findR_pos (by simpa using h2);have p2:=findR_pos (by simpa using h3);exact prodQ_low (prodQ_low (ofR_den (by decide)) (ofR_den (by omega))).den (ofR_den (by omega))
theorem convR_nonneg{l:List RateD}{base cur tc:ByteArray}{u day:Int}(h:(convR l base cur u tc day).2=0)(hu:0≤u):0≤(convR l base cur u tc day).1.toQ :=by
 unfold convR at h⊢;split at h
 ·cases h
 rename_i h1;split at h
 ·contradiction
 rename_i h2;split at h
 ·contradiction
 rename_i h3;rw[if_neg h1,if_neg h2,if_neg h3];have p1:=findR_pos (by simpa using h2);have p2:=findR_pos (by simpa using h3)
 have key:∀{a b:Int},0≤a->1≤b->0≤(ofR a b).toQ :=λ{a b} ha hb=>by
  rw[(ofR_low (by omega)).nonneg];show((decide (a<0)!=decide (b<0))&&_)=false;rw[decide_eq_false (by omega),decide_eq_false (by omega)];rfl
 have d1:=ofR_den (n:=u) (d:=1) (by decide);have d2:=ofR_den (n:=(findR l base cur day).1.num) (d:=(findR l base cur day).1.den) (by omega);have d3:=ofR_den (n:=(findR l base tc day).1.den) (d:=(findR l base tc day).1.num) (by omega);show 0≤(prodQ (prodQ _ _) _).toQ;rw[prodQ_q (prodQ_low d1 d2).den d3,prodQ_q d1 d2];exact Rat.mul_nonneg (Rat.mul_nonneg (key hu (by decide)) (key (by omega) (by omega))) (key (by omega) (by omega))
theorem totS_low{l:List ProdD}{o:List ByteArray}(h:OrdOk l o){of:ProdD->(Rt × Int) × Bool}(hof:∀p∈l,(of p).1.2=0->Low (of p).1.1):
  ∀(n:Nat)(id:ByteArray),rk o id<n->id∈idsP l->(totS l of (l.length+1) id).2=0->Low (totS l of (l.length+1) id).1
 |0,_,hn,_=>absurd hn (Nat.not_lt_zero _)
 |n+1,id,hn,hm=>by
  obtain⟨p,hp⟩:=prodOf_mem hm;obtain⟨q1,q2⟩:=prodOf_some hp;rw[totS_eq h of hp];split
  ·exact hof p q1
  ·intro h0;refine(foldT_ok ?_ (hof p q1) h0).2.2.1;intro c hc hc0;refine(totS_low h hof n _ ?_ (h.known _ q1 _ (comp_part hc)) hc0).den;have:=h.down q1 (comp_part hc);rw[q2]at this;omega
theorem totV_low{l:List ProdD}{o:List ByteArray}(h:OrdOk l o){r:List RateD}{base:ByteArray}{day:Int}{id:ByteArray}(hm:id∈idsP l)(h0:(totV l r base day id).2=0):Low (totV l r base day id).1:=
 totS_low h (λp _ h=>convR_low h) _ id (Nat.lt_succ_self _) hm h0
theorem totV_eq{l:List ProdD}{o:List ByteArray}(h:OrdOk l o)(r:List RateD)(base:ByteArray)(day:Int){id:ByteArray}{p:ProdD}(hp:prodOf l id=some p):
  totV l r base day id=foldT (λc=>totV l r base day c.prod) p.parts (convR r base p.cur p.units base day):=by
 unfold totV;rw[totS_eq h _ hp];rfl
def sumG(of:ByteArray->Rt × Int):List CompD->Rt->Rt × Bool
 |[],x=>(x,true)
 |c::L,x=>
  if(of c.prod).2≠0 then(rt0,false)else if(mulR (ofR c.cnt 1) (of c.prod).1).2≠0 then(rt0,false)else
  if(addR x (mulR (ofR c.cnt 1) (of c.prod).1).1).2≠0 then(rt0,false)else sumG of L (addR x (mulR (ofR c.cnt 1) (of c.prod).1).1).1
theorem sumG_fold(of:ByteArray->Rt × Int):∀(L:List CompD)(x:Rt),sumG of L x=if(foldT (λc=>of c.prod) L (x,0)).2=0 then((foldT (λc=>of c.prod) L (x,0)).1,true)else(rt0,false)
 |[],x=>by unfold sumG foldT;simp
 |c::L,x=>by
  have e:foldT (λc=>of c.prod) (c::L) (x,0)=foldT (λc=>of c.prod) L (plusR (x,0) c.cnt (of c.prod)):=rfl;rw[e];unfold sumG;by_cases h1:(of c.prod).2≠0
  ·rw[if_pos h1];(have ep:plusR (x,0) c.cnt (of c.prod)=of c.prod:=by unfold plusR;simp[h1]);rw[ep,foldT_bad h1,if_neg h1]
  ·rw[if_neg h1];by_cases h2:(mulR (ofR c.cnt 1) (of c.prod).1).2≠0
   ·rw[if_pos h2];(have ep:plusR (x,0) c.cnt (of c.prod)=(rt0,(mulR (ofR c.cnt 1) (of c.prod).1).2):=by unfold plusR;simp[h1,h2]);rw[ep,foldT_bad (x:=(rt0,(mulR (ofR c.cnt 1) (of c.prod).1).2)) h2,if_neg h2]
   ·rw[if_neg h2];(have ep:plusR (x,0) c.cnt (of c.prod)=addR x (mulR (ofR c.cnt 1) (of c.prod).1).1:=by unfold plusR;simp[h1,h2]);rw[ep];by_cases h3:(addR x (mulR (ofR c.cnt 1) (of c.prod).1).1).2≠0
    ·rw[if_pos h3,foldT_bad h3,if_neg h3]
    ·rw[if_neg h3,sumG_fold of L];have:addR x (mulR (ofR c.cnt 1) (of c.prod).1).1=((addR x (mulR (ofR c.cnt 1) (of c.prod).1).1).1,0):=Prod.ext rfl (by simpa using h3);rw[<-this]
theorem openE_ok{t:TarD}{l:List ProdD}{r:List RateD}{base id:ByteArray}{day:Int}(h:openE t l r base id day=0):checkP t l=0∧validRates r base=true∧dayOk day=true∧id∈idsP l:=by
 unfold openE at h;split at h
 ·contradiction
 rename_i h1;split at h
 ·cases h
 rename_i h2;split at h
 ·rename_i h3;have h2:(validRates r base&&dayOk day)=true:=eq_true_of_ne_false h2;simp only[Bool.and_eq_true]at h2;exact⟨by simpa using h1,h2.1,h2.2,h3⟩
 ·cases h
theorem openE_of{t:TarD}{l:List ProdD}{r:List RateD}{base id:ByteArray}{day:Int}(h1:checkP t l=0)(h2:validRates r base=true)(h3:dayOk day=true)(h4:id∈idsP l):openE t l r base id day=0:=by
 unfold openE;rw[if_neg (by simpa using h1),if_neg (by simp[h2,h3]),if_pos h4]
theorem valueP_ok{t:TarD}{l:List ProdD}{r:List RateD}{base id:ByteArray}{day:Int}(h:openE t l r base id day=0):valueP t l r base id day=totV l r base day id:=by
 unfold valueP;rw[if_neg (by simpa using h)]
theorem values_none{t:TarD}{l:List ProdD}{r:List RateD}{base id:ByteArray}{day:Int}(h:checkP t l≠0∨id∉idsP l∨validRates r base=false):(valueP t l r base id day).2≠0:=by
 unfold valueP
 have:openE t l r base id day≠0:=by
  intro h0;obtain⟨a,b,_,c⟩:=openE_ok h0;rcases h with h|h|h
  ·exact h a
  ·exact h c
  ·rw[b]at h;cases h
 rw[if_pos this];exact this
theorem convR_day{r:List RateD}{base cur:ByteArray}{u day:Int}(h1:amtOk cur u=true)(hd:dayOk day=false):convR r base cur u base day=(rt0,1):=by
 have e:∀c,findR r base c day=(rate0,1):=λc=>by unfold findR;rw[hd];simp
 unfold convR;rw[if_neg (by simp[h1]),e,if_pos (by decide)]
theorem values_own{t:TarD}{l:List ProdD}{r:List RateD}{base id:ByteArray}{day:Int}{p:ProdD}(h1:checkP t l=0)(hp:prodOf l id=some p)(h2:validRates r base=true)(h3:(convR r base p.cur p.units base day).2≠0):
  (valueP t l r base id day).2=(convR r base p.cur p.units base day).2:=by
 obtain⟨q1,q2⟩:=prodOf_some hp;obtain⟨c1,c2,⟨o,c3⟩,c4⟩:=checkP_ok h1;obtain⟨b1,b2,b3,b4⟩:=badP_no (c2 p q1)
 cases hd:dayOk day with
 |false=>
  have:openE t l r base id day=1:=by
   unfold openE;rw[if_neg (by simpa using h1),if_pos (by simp[hd])]
  unfold valueP;rw[this,if_pos (by decide),convR_day b2 hd]
 |true=>
  have ho:=openE_of (id:=id) h1 h2 hd (by rw[<-q2];exact List.mem_map_of_mem q1);rw[valueP_ok ho,totV_eq c3 r base day hp,foldT_bad h3]
theorem values_sum{t:TarD}{l:List ProdD}{r:List RateD}{base id:ByteArray}{day:Int}{p:ProdD}(h1:checkP t l=0)(hp:prodOf l id=some p)(h2:validRates r base=true)(h3:(convR r base p.cur p.units base day).2=0):
  (sumG (λc=>valueP t l r base c day) p.parts (convR r base p.cur p.units base day).1).2=decide ((valueP t l r base id day).2=0)∧
  ((valueP t l r base id day).2=0->(valueP t l r base id day).1=(sumG (λc=>valueP t l r base c day) p.parts (convR r base p.cur p.units base day).1).1):=by
 obtain⟨q1,q2⟩:=prodOf_some hp;obtain⟨c1,c2,⟨o,c3⟩,c4⟩:=checkP_ok h1;obtain⟨b1,b2,b3,b4⟩:=badP_no (c2 p q1)
 have hd:dayOk day=true:=by
  cases hd:dayOk day with
  |true=>rfl
  |false=>rw[convR_day b2 hd]at h3;cases h3
 have ho:=openE_of (id:=id) h1 h2 hd (by rw[<-q2];exact List.mem_map_of_mem q1);have e:convR r base p.cur p.units base day=((convR r base p.cur p.units base day).1,0):=Prod.ext rfl h3
 have hf:foldT (λc=>valueP t l r base c.prod day) p.parts ((convR r base p.cur p.units base day).1,0)=valueP t l r base id day:=by
  rw[valueP_ok ho,totV_eq c3 r base day hp,<-e];refine foldT_congr _ λc hc=> ?_
  exact valueP_ok (openE_of h1 h2 hd (c3.known _ q1 _ (comp_part hc)))
 rw[sumG_fold,hf];by_cases h0:(valueP t l r base id day).2=0
 ·rw[if_pos h0];simp[h0]
 ·rw[if_neg h0];simp[h0]
end Go.Proofs.YtimmfbnjndndlaaGreatDoor
