/- Texts PY PZ RX RXT RPTurned. -/
import Derived.Test.YtaedcjcdpckkaaaGreatDoorM50
import Derived.Test.YtaedcjcdpckkaaaGreatDoorCards
import Derived.Test.YtaedcjcdpckkaaaGreatDoorTie
import Derived.SevenTiedAt
set_option linter.all false
namespace Go.Proofs.YtaedcjcdpckkaaaGreatDoor
open Go.RowKit
set_option maxHeartbeats 16000000
set_option maxRecDepth 100000
theorem ready_some{l:List ProdD}{f:ByteArray->Nat}(hids:(idsP l).Nodup)(hk:∀p∈l,∀c∈partsOf p,c∈idsP l)(hd:∀p∈l,∀c∈partsOf p,f c<f p.id){out:List ByteArray}(hi:OrdI l out)(hl:out.length<l.length):∃p,l.find? (readyP out)=some p:=by
 have h1:∃n,∃p∈l,p.id∉out∧f p.id=n:=by
  apply Classical.byContradiction;intro hn
  have:∀x∈idsP l,x∈out:=by
   intro x hx;obtain⟨p,hp,rfl⟩:=List.mem_map.1 hx;apply Classical.byContradiction;intro h0;exact hn ⟨_,p,hp,h0,rfl⟩
  have:=List.Nodup.length_le_of_subset hids this;unfold idsP at this;rw[List.length_map]at this;omega
 obtain⟨n,hn⟩:=h1
 induction n using Nat.strongRecOn with
 | _ n ih=>
  obtain⟨p,hp,h2,h3⟩:=hn;by_cases hr:readyP out p=true
  ·cases hf:l.find? (readyP out)with
   |some q=>exact⟨q,rfl⟩
   |none=>rw[List.find?_eq_none]at hf;exact absurd hr (hf p hp)
  ·have:¬(p.id∉out∧∀c∈partsOf p,c∈out):=λh=>hr (readyP_iff.2 h)
   have:∃c,c∈partsOf p∧c∉out:=by
    apply Classical.byContradiction;intro h0;refine this ⟨h2,λc hc=> ?_⟩;apply Classical.byContradiction;intro h4;exact h0 ⟨c,hc,h4⟩
   obtain⟨c,hc,hco⟩:=this;obtain⟨q,hq,hqe⟩:=List.mem_map.1 (hk p hp c hc);have hlt:=hd p hp c hc;exact ih (f c) (by omega) ⟨q,hq,by rw[hqe];exact hco,by rw[hqe]⟩
theorem ordGo_some{l:List ProdD}{f:ByteArray->Nat}(hids:(idsP l).Nodup)(hk:∀p∈l,∀c∈partsOf p,c∈idsP l)(hd:∀p∈l,∀c∈partsOf p,f c<f p.id):
  ∀(n:Nat)(out:List ByteArray),OrdI l out->out.length+n≤l.length->∃o,ordGo l n out=some o
 |0,out,_,_=>⟨out,rfl⟩
 |n+1,out,hi,hl=>by
  obtain⟨p,hp⟩:=ready_some hids hk hd hi (by omega);unfold ordGo;rw[hp];exact ordGo_some hids hk hd n _ (hi.snoc hp) (by rw[List.length_append,List.length_singleton];omega)
structure ProperP (t:TarD) (l:List ProdD) (f:ByteArray->Nat):Prop where
 tar:validT t=true
 small:largeP l=false
 good:∀p∈l,badP t p=false
 ids:(idsP l).Nodup
 parts:∀p∈l,(partsOf p).Nodup
 known:∀p∈l,∀c∈partsOf p,c∈idsP l
 down:∀p∈l,∀c∈partsOf p,f c<f p.id
 cls:∀p∈l,(classT t p.cas).2=0
theorem ProperP.check{t:TarD}{l:List ProdD}{f:ByteArray->Nat}(h:ProperP t l f):checkP t l=0:=by
 have e1:l.any (badP t)=false:=by rw[List.any_eq_false];intro p hp;rw[h.good p hp];simp
 have e2:l.any oddP=false:=by rw[List.any_eq_false];intro p hp;rw[(badP_no (h.good p hp)).1];simp
 have e3:onceP l=true:=by unfold onceP;simp only[Bool.and_eq_true,decide_eq_true_eq,List.all_eq_true];exact⟨h.ids,h.parts⟩
 have e4:knownP l=true:=by unfold knownP;simp only[List.all_eq_true,decide_eq_true_eq];exact h.known
 have e5:(orderP l).2=0:=by
  obtain⟨o,ho⟩:=ordGo_some h.ids h.known h.down l.length [] (OrdI.nil l) (by simp);unfold orderP;rw[h.small,e2,e3,e4,ho];rfl
 have e6:firstE t l=0:=by
  have hc:=h.cls;clear h e1 e2 e3 e4 e5
  induction l with
  |nil=>rfl
  |cons p r ih=>
   unfold firstE;rw[if_neg (by simpa using hc p (List.mem_cons_self ..))];exact ih λq hq=>hc q (List.mem_cons_of_mem _ hq)
 unfold checkP;rw[h.tar,h.small,e1,e5,e6];rfl
theorem proper_of{t:TarD}{l:List ProdD}(h:checkP t l=0):∃o,OrdOk l o∧ProperP t l (rk o):=by
 obtain⟨c1,c2,⟨o,c3⟩,c4⟩:=checkP_ok h;exact⟨o,c3,c1,c3.small,c2,c3.ids,c3.parts,c3.known,λp hp c hc=>c3.down hp hc,c4⟩
def turnP(p:ProdD):ProdD:={p with parts:=p.parts.reverse}
def turnL(l:List ProdD):List ProdD:=(l.map turnP).reverse
theorem idsP_turn(l:List ProdD):idsP (turnL l)=(idsP l).reverse :=by
 unfold idsP turnL;rw[List.map_reverse,List.map_map];rfl
theorem partsOf_turn(p:ProdD):partsOf (turnP p)=(partsOf p).reverse :=by unfold partsOf turnP;simp
theorem mem_turn{l:List ProdD}{q:ProdD}(h:q∈turnL l):∃p∈l,q=turnP p:=by
 unfold turnL at h;rw[List.mem_reverse]at h;obtain⟨p,hp,e⟩:=List.mem_map.1 h;exact⟨p,hp,e.symm⟩
theorem turn_mem{l:List ProdD}{p:ProdD}(h:p∈l):turnP p∈turnL l:=by
 unfold turnL;rw[List.mem_reverse];exact List.mem_map_of_mem h
theorem nodup_rev{α:Type}{l:List α}(h:l.Nodup):l.reverse.Nodup:=by
 unfold List.Nodup at h⊢;exact List.pairwise_reverse.2 (h.imp λh e=>h e.symm)
theorem any_rev{α:Type}{q:α->Bool}{l:List α}:l.reverse.any q=l.any q:=by simp
theorem oddP_turn(p:ProdD):oddP (turnP p)=oddP p:=by unfold oddP turnP;simp
theorem largeP_turn(l:List ProdD):largeP (turnL l)=largeP l:=by
 unfold largeP turnL;rw[any_rev,List.length_reverse,List.length_map,List.any_map];congr 2;funext p;simp[turnP]
theorem proper_turn{t:TarD}{l:List ProdD}{f:ByteArray->Nat}(h:ProperP t l f):ProperP t (turnL l) f where
 tar:=h.tar
 small:=by rw[largeP_turn];exact h.small
 good:=λq hq=>by
  obtain⟨p,hp,rfl⟩:=mem_turn hq;have:=h.good p hp;unfold badP at this⊢;rw[oddP_turn];exact this
 ids:=by rw[idsP_turn];exact nodup_rev h.ids
 parts:=λq hq=>by obtain⟨p,hp,rfl⟩:=mem_turn hq;rw[partsOf_turn];exact nodup_rev (h.parts p hp)
 known:=λq hq c hc=>by
  obtain⟨p,hp,rfl⟩:=mem_turn hq;rw[partsOf_turn,List.mem_reverse]at hc;rw[idsP_turn,List.mem_reverse];exact h.known p hp c hc
 down:=λq hq c hc=>by
  obtain⟨p,hp,rfl⟩:=mem_turn hq;rw[partsOf_turn,List.mem_reverse]at hc;exact h.down p hp c hc
 cls:=λq hq=>by obtain⟨p,hp,rfl⟩:=mem_turn hq;exact h.cls p hp
structure AlikeP (l l':List ProdD):Prop where
 get:∀id∈idsP l,∃p p',prodOf l id=some p∧prodOf l' id=some p'∧p'.cas=p.cas∧p'.cur=p.cur∧p'.units=p.units∧p'.id=p.id∧p'.parts.Perm p.parts
theorem sumQ_perm{T:CompD->Rat}{L L':List CompD}(h:L.Perm L'):sumQ T L=sumQ T L':=by
 induction h with
 |nil=>rfl
 |cons x _ ih=>simp only[sumQ,ih]
 |swap x y l=>simp only[sumQ];rw[Rat.add_left_comm]
 |trans _ _ h1 h2=>exact h1.trans h2
theorem sumQ_congr{T T':CompD->Rat}:∀{L:List CompD},(∀c∈L,T c=T' c)->sumQ T L=sumQ T' L
 |[],_=>rfl
 |c::L,h=>by
  simp only[sumQ];rw[h c (List.mem_cons_self ..),sumQ_congr λd hd=>h d (List.mem_cons_of_mem _ hd)]
theorem convR_err{r:List RateD}{base cur:ByteArray}{u day:Int}(h1:amtOk cur u=true)(h2:validRates r base=true)(h3:dayOk day=true):(convR r base cur u base day).2=0∨(convR r base cur u base day).2=11:=by
 have hb:=(validRates_ok h2).1;have hc:curOk cur=true:=by unfold amtOk at h1;simp only[Bool.and_eq_true]at h1;exact h1.1
 have eb:findR r base base day=(⟨base,0,1,1⟩,0):=by unfold findR;simp[h2,h3,hb]
 have ec:(findR r base cur day).2=0∨(findR r base cur day).2=11:=by
  unfold findR;rw[if_neg (by simp[h2,h3,hc])];split
  ·exact .inl rfl
  ·cases bestR r cur day with
   |none=>exact .inr rfl
   |some x=>exact .inl rfl
 unfold convR;rw[if_neg (by simp[h1]),eb];rcases ec with ec|ec
 ·rw[if_neg (by simpa using ec),if_neg (by simp)];exact .inl rfl
 ·rw[if_pos (by rw[ec];decide),ec];exact .inr rfl
def In3(e:Int):Prop:=e=0∨e=2∨e=11
theorem alike_V{t:TarD}{l l':List ProdD}{o o':List ByteArray}(h:OrdOk l o)(h':OrdOk l' o')(hb:∀p∈l,badP t p=false)(ha:AlikeP l l'){r:List RateD}{base:ByteArray}{day:Int}(h2:validRates r base=true)(h3:dayOk day=true):
  ∀(n:Nat)(id:ByteArray),rk o id<n->id∈idsP l->In3 (totV l r base day id).2∧In3 (totV l' r base day id).2∧
   ((totV l r base day id).2=2∨(totV l' r base day id).2=2∨((totV l r base day id).2=(totV l' r base day id).2∧((totV l r base day id).2=0->(totV l r base day id).1=(totV l' r base day id).1))):=by
 intro n
 induction n with
 |zero=>exact λ_ hn _=>absurd hn (Nat.not_lt_zero _)
 |succ n IH=>
  intro id hn hm;obtain⟨p,p',hp,hp',e1,e2,e3,e4,e5⟩:=ha.get id hm;obtain⟨q1,q2⟩:=prodOf_some hp;obtain⟨q1',q2'⟩:=prodOf_some hp';obtain⟨b1,b2,b3,b4⟩:=badP_no (hb p q1);have ev:=totV_eq h r base day hp;have ev':=totV_eq h' r base day hp';rw[e2,e3]at ev';have hm':id∈idsP l':=by rw[<-q2'];exact List.mem_map_of_mem q1'
  have ih:=λc(hc:c∈p.parts)=>IH c.prod (by have:=h.down q1 (comp_part hc);rw[q2]at this;omega) (h.known _ q1 _ (comp_part hc))
  have hc':∀c∈p'.parts,c∈p.parts:=λc hc=>e5.mem_iff.1 hc
  have hl:=λ(h0:(totV l r base day id).2=0)=>totV_low h hm h0;have hl':=λ(h0:(totV l' r base day id).2=0)=>totV_low h' hm' h0;have hx:=convR_err (u:=p.units) b2 h2 h3;have hxl:=λh=>convR_low (l:=r) (base:=base) (cur:=p.cur) (tc:=base) (u:=p.units) (day:=day) h
  generalize convR r base p.cur p.units base day=x at*
  have i1:In3 (totV l r base day id).2:=by
   by_cases h0:(totV l r base day id).2=0
   ·exact .inl h0
   ·rw[ev]at h0⊢;rcases foldT_err h0 with⟨a,b⟩|⟨c,hc,a,b⟩|a
    ·rw[b];rcases hx with hx|hx
     ·exact .inl hx
     ·exact .inr (.inr hx)
    ·rw[b];exact(ih c hc).1
    ·exact .inr (.inl a)
  have i2:In3 (totV l' r base day id).2:=by
   by_cases h0:(totV l' r base day id).2=0
   ·exact .inl h0
   ·rw[ev']at h0⊢;rcases foldT_err h0 with⟨a,b⟩|⟨c,hc,a,b⟩|a
    ·rw[b];rcases hx with hx|hx
     ·exact .inl hx
     ·exact .inr (.inr hx)
    ·rw[b];exact(ih c (hc' c hc)).2.1
    ·exact .inr (.inl a)
  refine⟨i1,i2,?_⟩
  have k1:(totV l r base day id).2=0->x.2=0∧(∀c∈p.parts,(totV l r base day c.prod).2=0)∧(totV l r base day id).1.toQ =x.1.toQ+sumQ (λc=>(totV l r base day c.prod).1.toQ) p.parts:=λh0=>by
   rw[ev]at h0⊢;obtain⟨a,b,_,d⟩:=foldT_ok (T:=λc=>totV l r base day c.prod) (λc hc h0=>(totV_low h (h.known _ q1 _ (comp_part hc)) h0).den) hxl h0;exact⟨a,b,d⟩
  have k2:(totV l' r base day id).2=0->x.2=0∧(∀c∈p'.parts,(totV l' r base day c.prod).2=0)∧(totV l' r base day id).1.toQ =x.1.toQ+sumQ (λc=>(totV l' r base day c.prod).1.toQ) p'.parts:=λh0=>by
   rw[ev']at h0⊢;obtain⟨a,b,_,d⟩:=foldT_ok (T:=λc=>totV l' r base day c.prod) (λc hc h0=>(totV_low h' (h'.known _ q1' _ (comp_part hc)) h0).den) hxl h0;exact⟨a,b,d⟩
  have j1:(totV l r base day id).2≠0->(x.2≠0∧(totV l r base day id).2=x.2)∨(∃c∈p.parts,(totV l r base day c.prod).2≠0∧(totV l r base day id).2=(totV l r base day c.prod).2)∨(totV l r base day id).2=2:=λh0=>by
   rw[ev]at h0⊢;exact foldT_err h0
  have j2:(totV l' r base day id).2≠0->(x.2≠0∧(totV l' r base day id).2=x.2)∨(∃c∈p'.parts,(totV l' r base day c.prod).2≠0∧(totV l' r base day id).2=(totV l' r base day c.prod).2)∨(totV l' r base day id).2=2:=λh0=>by
   rw[ev']at h0⊢;exact foldT_err h0
  clear ev ev';rcases i1 with i1|i1|i1
  ·obtain⟨a1,a2,a3⟩:=k1 i1;rcases i2 with i2|i2|i2
   ·refine .inr (.inr ⟨by rw[i1,i2],λ_=>toQ_inj (hl i1) (hl' i2) ?_⟩);obtain⟨b1,b2,b3⟩:=k2 i2;rw[a3,b3,<-sumQ_perm e5.symm];congr 1;(refine sumQ_congr λc hc=> ?_);rcases(ih c hc).2.2 with q|q|⟨_,q⟩
    ·exact absurd ((a2 c hc).symm.trans q) (by decide)
    ·exact absurd ((b2 c (e5.mem_iff.2 hc)).symm.trans q) (by decide)
    ·rw[q (a2 c hc)]
   ·exact .inr (.inl i2)
   ·rcases j2 (by rw[i2];decide)with⟨a,_⟩|⟨c,hc,a,b⟩|a
    ·exact absurd a1 a
    ·rcases(ih c (hc' c hc)).2.2 with q|q|⟨q,_⟩
     ·rw[a2 c (hc' c hc)]at q;cases q
     ·rw[q]at b;exact .inr (.inl b)
     ·rw[a2 c (hc' c hc)]at q;exact absurd q.symm a
    ·exact .inr (.inl a)
  ·exact .inl i1
  ·rcases i2 with i2|i2|i2
   ·obtain⟨b1,b2,_⟩:=k2 i2;rcases j1 (by rw[i1];decide)with⟨a,_⟩|⟨c,hc,a,b⟩|a
    ·exact absurd b1 a
    ·rcases(ih c hc).2.2 with q|q|⟨q,_⟩
     ·rw[q]at b;exact .inl b
     ·rw[b2 c (e5.mem_iff.2 hc)]at q;cases q
     ·rw[b2 c (e5.mem_iff.2 hc)]at q;exact absurd q a
    ·exact .inl a
   ·exact .inr (.inl i2)
   ·exact .inr (.inr ⟨by rw[i1,i2],λh0=>by rw[i1]at h0;cases h0⟩)
theorem alike_C{t:TarD}{l l':List ProdD}{o o':List ByteArray}(h:OrdOk l o)(h':OrdOk l' o')(hb:∀p∈l,badP t p=false)(hb':∀p∈l',badP t p=false)(ha:AlikeP l l'){r:List RateD}{base:ByteArray}{day:Int}(h2:validRates r base=true)(h3:dayOk day=true):
  ∀(n:Nat)(id:ByteArray),rk o id<n->id∈idsP l->(totV l r base day id).2=0->(totV l' r base day id).2=0->
   (totC t l r base day id).2=2∨(totC t l' r base day id).2=2∨((totC t l r base day id).2=0∧(totC t l' r base day id).2=0∧(totC t l r base day id).1=(totC t l' r base day id).1):=by
 intro n
 induction n with
 |zero=>exact λ_ hn _ _ _=>absurd hn (Nat.not_lt_zero _)
 |succ n IH=>
  intro id hn hm h0 h0';obtain⟨p,p',hp,hp',e1,e2,e3,e4,e5⟩:=ha.get id hm;obtain⟨q1,q2⟩:=prodOf_some hp;obtain⟨q1',q2'⟩:=prodOf_some hp';have hm':id∈idsP l':=by rw[<-q2'];exact List.mem_map_of_mem q1'
  have hc':∀c∈p'.parts,c∈p.parts:=λc hc=>e5.mem_iff.1 hc
  obtain⟨x0,xk,-,-⟩:=foldT_ok (T:=λc=>totV l r base day c.prod) (L:=p.parts) (x:=convR r base p.cur p.units base day) (λc hc h0=>(totV_low h (h.known _ q1 _ (comp_part hc)) h0).den) (λh=>convR_low h) (by rw[<-totV_eq h r base day hp];exact h0);obtain⟨x0',xk',-,-⟩:=foldT_ok (T:=λc=>totV l' r base day c.prod) (L:=p'.parts) (x:=convR r base p'.cur p'.units base day) (λc hc h0=>(totV_low h' (h'.known _ q1' _ (comp_part hc)) h0).den) (λh=>convR_low h) (by rw[<-totV_eq h' r base day hp'];exact h0');obtain⟨-,m1,m2⟩:=ctl_le (t:=t) h hb r base day _ id (Nat.lt_succ_self _) hm h0;obtain⟨-,m1',m2'⟩:=ctl_le (t:=t) h' hb' r base day _ id (Nat.lt_succ_self _) hm' h0';have ih:=λc(hc:c∈p.parts)=>IH c.prod (by have:=h.down q1 (comp_part hc);rw[q2]at this;omega) (h.known _ q1 _ (comp_part hc)) (xk c hc) (xk' c (e5.mem_iff.2 hc))
  have hcl:=λc(hc:c∈p.parts)=>(ctl_le (t:=t) h hb r base day _ c.prod (Nat.lt_succ_self _) (h.known _ q1 _ (comp_part hc)) (xk c hc)).2.1
  have hcl':=λc(hc:c∈p'.parts)=>(ctl_le (t:=t) h' hb' r base day _ c.prod (Nat.lt_succ_self _) (h'.known _ q1' _ (comp_part hc)) (xk' c hc)).2.1
  by_cases z1:(totC t l r base day id).2=0
  ·by_cases z2:(totC t l' r base day id).2=0
   ·refine .inr (.inr ⟨z1,z2,?_⟩);have c1:=totC_eq (t:=t) h r base day hp;have c2:=totC_eq (t:=t) h' r base day hp';rw[e1]at c2;by_cases hct:ctlLine t p.cas=true
    ·rw[if_pos hct]at c1 c2;rw[c1,c2];rcases(alike_V h h' hb ha h2 h3 _ id (Nat.lt_succ_self _) hm).2.2 with q|q|⟨_,q⟩
     ·rw[h0]at q;cases q
     ·rw[h0']at q;cases q
     ·exact q h0
    ·rw[if_neg hct]at c1 c2;have L1:=(m1 z1).1;have L2:=(m1' z2).1;refine toQ_inj L1 L2 ?_;rw[c1]at z1⊢;rw[c2]at z2⊢;obtain⟨_,y1,_,y2⟩:=foldT_ok (T:=λc=>totC t l r base day c.prod) (λc hc h0=>(hcl c hc h0).1.den) (λ_=>rt0_low) z1;obtain⟨_,y1',_,y2'⟩:=foldT_ok (T:=λc=>totC t l' r base day c.prod) (λc hc h0=>(hcl' c hc h0).1.den) (λ_=>rt0_low) z2;rw[y2,y2',rt0_q,Rat.zero_add,Rat.zero_add,<-sumQ_perm e5.symm];(refine sumQ_congr λc hc=> ?_);rcases ih c hc with q|q|⟨_,_,q⟩
     ·exact absurd ((y1 c hc).symm.trans q) (by decide)
     ·exact absurd ((y1' c (e5.mem_iff.2 hc)).symm.trans q) (by decide)
     ·rw[q]
   ·exact .inr (.inl (m2' z2))
  ·exact .inl (m2 z1)
theorem share_congr{t t':TarD}{l l':List ProdD}{r r':List RateD}{base base' id id':ByteArray}{day day':Int}(h2:(controlP t l r base id day).2=(controlP t' l' r' base' id' day').2)
  (h1:(controlP t l r base id day).2=0->(controlP t l r base id day).1=(controlP t' l' r' base' id' day').1∧(valueP t l r base id day).1=(valueP t' l' r' base' id' day').1):shareP t l r base id day=shareP t' l' r' base' id' day':=by
 unfold shareP;by_cases h0:(controlP t l r base id day).2=0
 ·obtain⟨a,b⟩:=h1 h0;have k0:¬(controlP t l r base id day).2≠0:=by simpa using h0
  have k1:¬(controlP t' l' r' base' id' day').2≠0:=by rw[<-h2];exact k0
  rw[if_neg k0,if_neg k1,a,b]
 ·have k1:(controlP t' l' r' base' id' day').2≠0:=by rw[<-h2];exact h0
  rw[if_pos h0,if_pos k1,h2]
def EqR(x y:Rt × Int):Prop:=x.2=y.2∧(x.2=0->x.1=y.1)
theorem turned_ok{t:TarD}{l l':List ProdD}{r:List RateD}{base id:ByteArray}{day:Int}(h:checkP t l=0)(h':checkP t l'=0)(ha:AlikeP l l')(hid:id∈idsP l↔id∈idsP l')
  (n1:(valueP t l r base id day).2≠2)(n2:(valueP t l' r base id day).2≠2)(n3:(controlP t l r base id day).2≠2)(n4:(controlP t l' r base id day).2≠2):
  EqR (valueP t l r base id day) (valueP t l' r base id day)∧EqR (controlP t l r base id day) (controlP t l' r base id day)∧shareP t l r base id day=shareP t l' r base id day:=by
 obtain⟨-,c2,⟨o,c3⟩,-⟩:=checkP_ok h;obtain⟨-,d2,⟨o',d3⟩,-⟩:=checkP_ok h'
 have eo:openE t l r base id day=openE t l' r base id day:=by
  unfold openE;rw[h,h'];by_cases hm:id∈idsP l
  ·rw[if_pos hm,if_pos (hid.1 hm)]
  ·rw[if_neg hm,if_neg (λh=>hm (hid.2 h))]
 have key:EqR (valueP t l r base id day) (valueP t l' r base id day)∧EqR (controlP t l r base id day) (controlP t l' r base id day):=by
  by_cases h0:openE t l r base id day=0
  ·have h0':=eo.symm.trans h0;obtain⟨-,a2,a3,a4⟩:=openE_ok h0;rw[valueP_ok h0]at n1⊢;rw[valueP_ok h0']at n2⊢;obtain⟨-,-,q⟩:=alike_V (t:=t) c3 d3 c2 ha a2 a3 _ id (Nat.lt_succ_self _) a4
   have q:(totV l r base day id).2=(totV l' r base day id).2∧((totV l r base day id).2=0->(totV l r base day id).1=(totV l' r base day id).1):=by
    rcases q with q|q|q
    ·exact absurd q n1
    ·exact absurd q n2
    ·exact q
   refine⟨q,?_⟩;unfold controlP at n3 n4⊢;(have k0:¬openE t l r base id day≠0:=by simpa using h0);(have k0':¬openE t l' r base id day≠0:=by simpa using h0');rw[if_neg k0]at n3⊢;rw[if_neg k0']at n4⊢;by_cases hv:(totV l r base day id).2=0
   ·have hv':=q.1.symm.trans hv;(have k1:¬(totV l r base day id).2≠0:=by simpa using hv);(have k1':¬(totV l' r base day id).2≠0:=by simpa using hv');rw[if_neg k1]at n3⊢;rw[if_neg k1']at n4⊢;rcases alike_C (t:=t) c3 d3 c2 d2 ha a2 a3 _ id (Nat.lt_succ_self _) a4 hv hv' with w|w|⟨w1,w2,w3⟩
    ·exact absurd w n3
    ·exact absurd w n4
    ·exact⟨by rw[w1,w2],λ_=>w3⟩
   ·(have k1':(totV l' r base day id).2≠0:=by rw[<-q.1];exact hv);rw[if_pos hv,if_pos k1'];exact⟨q.1,λh=>absurd h hv⟩
  ·have e1:∀x:List ProdD,openE t x r base id day=openE t l r base id day->valueP t x r base id day=(rt0,openE t l r base id day)∧controlP t x r base id day=(rt0,openE t l r base id day):=by
    intro x hx;unfold valueP controlP;rw[hx,if_pos h0,if_pos h0];exact⟨rfl,rfl⟩
   obtain⟨a,b⟩:=e1 l rfl;obtain⟨c,d⟩:=e1 l' eo.symm;rw[a,b,c,d];exact⟨⟨rfl,λ_=>rfl⟩,⟨rfl,λ_=>rfl⟩⟩
 refine⟨key.1,key.2,share_congr key.2.1 λh0=>⟨key.2.2 h0,key.1.2 ?_⟩⟩;obtain⟨q1,q2,_,q3⟩:=controlP_ok h0;rw[q3];exact q2
theorem alike_turn{l:List ProdD}(h:(idsP l).Nodup):AlikeP l (turnL l) where
 get:=λid hm=>by
  obtain⟨p,hp⟩:=prodOf_mem hm;obtain⟨q1,q2⟩:=prodOf_some hp;have hn:(idsP (turnL l)).Nodup :=by rw[idsP_turn];exact nodup_rev h
  have:=prodOf_get hn (turn_mem q1);have e:(turnP p).id =id:=q2;rw[e]at this;exact⟨p,turnP p,hp,this,rfl,rfl,rfl,rfl,List.reverse_perm _⟩
theorem prodOf_cons{q:ProdD}{l:List ProdD}{id:ByteArray}(h:q.id≠id):prodOf (q::l) id=prodOf l id:=by
 unfold prodOf;rw[List.find?_cons_of_neg (by simpa using h)]
theorem alike_cons{l l':List ProdD}{q:ProdD}(h:AlikeP l l')(hq:q.id∉idsP l):AlikeP l (q::l') where
 get:=λid hm=>by
  obtain⟨p,p',h1,h2,h3⟩:=h.get id hm;exact⟨p,p',h1,by rw[prodOf_cons (λe=>hq (by rw[e];exact hm))];exact h2,h3⟩
theorem prodOf_append{q:ProdD}{l:List ProdD}{id:ByteArray}(h:id∈idsP l):prodOf (l++[q]) id=prodOf l id:=by
 obtain⟨p,hp⟩:=prodOf_mem h;rw[hp];unfold prodOf at hp⊢;rw[List.find?_append,hp];rfl
theorem prodOf_last{q:ProdD}{l:List ProdD}(h:q.id∉idsP l):prodOf (l++[q]) q.id=some q:=by
 have hn:prodOf l q.id=none:=by
  cases hp:prodOf l q.id with
  |none=>rfl
  |some p=>
   obtain⟨q1,q2⟩:=prodOf_some hp;exact absurd (by rw[<-q2];exact List.mem_map_of_mem q1) h
 unfold prodOf at hn⊢;rw[List.find?_append,hn];simp
theorem idsP_append(l:List ProdD)(q:ProdD):idsP (l++[q])=idsP l++[q.id]:=by unfold idsP;simp
def rkB(o:List ByteArray)(b x:ByteArray):Nat:=if x=b then o.length+1 else rk o x
theorem proper_box{t:TarD}{l:List ProdD}{o:List ByteArray}(ho:OrdOk l o)(h:ProperP t l (rk o)){q:ProdD}(hq:q.id∉idsP l)(hb:badP t q=false)(hc:(classT t q.cas).2=0)(hp:∀c∈partsOf q,c∈idsP l)(hpn:(partsOf q).Nodup)(hl:l.length<60)(hpl:q.parts.length≤12):ProperP t (l++[q]) (rkB o q.id) where
 tar:=h.tar
 small:=by
  have:=h.small;unfold largeP at this⊢;simp only[Bool.or_eq_false_iff,decide_eq_false_iff_not]at this⊢;refine⟨by rw[List.length_append,List.length_singleton];omega,?_⟩;rw[List.any_append,this.2];simp only[List.any_cons,List.any_nil,Bool.or_false,Bool.false_or,decide_eq_false_iff_not];omega
 good:=λp hp=>by
  rcases List.mem_append.1 hp with hp|hp
  ·exact h.good p hp
  ·rw[List.mem_singleton.1 hp];exact hb
 ids:=by
  rw[idsP_append,List.nodup_append];refine⟨h.ids,by simp,λa ha b hb e=> ?_⟩;rw[List.mem_singleton.1 hb]at e;exact hq (by rw[<-e];exact ha)
 parts:=λp hp=>by
  rcases List.mem_append.1 hp with hp|hp
  ·exact h.parts p hp
  ·rw[List.mem_singleton.1 hp];exact hpn
 known:=λp hp' c hc=>by
  rw[idsP_append];rcases List.mem_append.1 hp' with hp'|hp'
  ·exact List.mem_append_left _ (h.known p hp' c hc)
  ·rw[List.mem_singleton.1 hp']at hc;exact List.mem_append_left _ (hp c hc)
 down:=λp hp' c hc=>by
  have hnb:∀x∈idsP l,rkB o q.id x=rk o x:=λx hx=>by unfold rkB;rw[if_neg (λe=>hq (by rw[<-e];exact hx))]
  rcases List.mem_append.1 hp' with hp'|hp'
  ·rw[hnb _ (h.known p hp' c hc),hnb _ (List.mem_map_of_mem hp')];exact h.down p hp' c hc
  ·rw[List.mem_singleton.1 hp']at hc⊢;rw[hnb _ (hp c hc)];(have e:rkB o q.id q.id=o.length+1:=by unfold rkB;rw[if_pos rfl]);rw[e];exact Nat.lt_succ_of_lt (rk_lt (ho.all _ (hp c hc)))
 cls:=λp hp=>by
  rcases List.mem_append.1 hp with hp|hp
  ·exact h.cls p hp
  ·rw[List.mem_singleton.1 hp];exact hc
theorem totS_alike{l l':List ProdD}{o o':List ByteArray}(h:OrdOk l o)(h':OrdOk l' o')(he:∀id∈idsP l,prodOf l' id=prodOf l id){of of':ProdD->(Rt × Int) × Bool}(hof:∀p∈l,of' p=of p):
  ∀(n:Nat)(id:ByteArray),rk o id<n->id∈idsP l->totS l' of' (l'.length+1) id=totS l of (l.length+1) id
 |0,_,hn,_=>absurd hn (Nat.not_lt_zero _)
 |n+1,id,hn,hm=>by
  obtain⟨p,hp⟩:=prodOf_mem hm;obtain⟨q1,q2⟩:=prodOf_some hp;have hp':=he id hm;rw[hp]at hp';rw[totS_eq h of hp,totS_eq h' of' hp',hof p q1];split
  ·rfl
  ·exact foldT_congr _ λc hc=>totS_alike h h' he hof n c.prod (by have:=h.down q1 (comp_part hc);rw[q2]at this;omega) (h.known _ q1 _ (comp_part hc))
theorem addR_zero{m:Rt}(hm:Low m):addR rt0 m=(m,0)∨addR rt0 m=(rt0,2):=by
 rcases addR_cases rt0 m with⟨_,_,e⟩|e
 ·left;rw[e];have:sumR rt0 m=m:=toQ_inj (sumR_low (by decide) hm.den) hm (by rw[sumR_q (by decide) hm.den,rt0_q,Rat.zero_add]);rw[this]
 ·exact .inr e
theorem conv_base{r:List RateD}{base:ByteArray}{day:Int}(h2:validRates r base=true)(h3:dayOk day=true):convR r base base 0 base day=(rt0,0):=by
 have hb:=(validRates_ok h2).1;have eb:findR r base base day=(⟨base,0,1,1⟩,0):=by unfold findR;simp[h2,h3,hb]
 unfold convR;rw[if_neg (by unfold amtOk;simp[hb]),eb,if_neg (by simp),if_neg (by simp)];show(prodQ (prodQ (ofR 0 1) (ofR 1 1)) (ofR 1 1),(0:Int))=(rt0,0);decide+kernel
theorem plus_box{n:Int}{y:Rt × Int}(h0:y.2=0)(hy:0<y.1.den):plusR (rt0,0) n y=mulR (ofR n 1) y.1∨(plusR (rt0,0) n y).2=2:=by
 unfold plusR;rw[if_neg (by simp),if_neg (by simpa using h0)];rcases mulR_cases (ofR n 1) y.1 with⟨_,_,e⟩|e
 ·rw[e];simp only[ne_eq,not_true_eq_false,if_false];rcases addR_zero (prodQ_low (ofR_den (n:=n) (d:=1) (by decide)) hy)with q|q
  ·exact .inl q
  ·right;rw[q]
 ·right;rw[e];simp
theorem box_vals{t:TarD}{l:List ProdD}{r:List RateD}{base id bid:ByteArray}{day n:Int}{cas:List Int}(h:checkP t l=0)(hv:(valueP t l r base id day).2=0)(hc:(controlP t l r base id day).2=0)(hbid:identS bid=true)(hnb:bid∉idsP l)(hfit:fits t.dom cas=true)
  (hcls:(classT t cas).2=0)(hctl:ctlLine t cas=false)(hn:1≤n∧n≤1000)(hl:l.length<60):
  checkP t (l++[⟨bid,cas,base,0,[⟨id,n⟩]⟩])=0∧
  (valueP t (l++[⟨bid,cas,base,0,[⟨id,n⟩]⟩]) r base bid day=mulR (ofR n 1) (valueP t l r base id day).1∨(valueP t (l++[⟨bid,cas,base,0,[⟨id,n⟩]⟩]) r base bid day).2=2)∧
  ((valueP t (l++[⟨bid,cas,base,0,[⟨id,n⟩]⟩]) r base bid day).2=0->controlP t (l++[⟨bid,cas,base,0,[⟨id,n⟩]⟩]) r base bid day=mulR (ofR n 1) (controlP t l r base id day).1∨(controlP t (l++[⟨bid,cas,base,0,[⟨id,n⟩]⟩]) r base bid day).2=2):=by
 obtain⟨h1,h2,h3,h4⟩:=controlP_ok hc;obtain⟨a1,a2,a3,a4⟩:=openE_ok h1;obtain⟨o,ho,hp⟩:=proper_of h
 have hb:badP t ⟨bid,cas,base,0,[⟨id,n⟩]⟩=false:=by
  have hbase:=(validRates_ok a2).1;unfold badP oddP amtOk cntOk;simp[hbid,hbase,hfit,hn.1,hn.2]
 generalize hq:(⟨bid,cas,base,0,[⟨id,n⟩]⟩:ProdD)=q at*;have eid:q.id=bid:=by rw[<-hq]
 have ecas:q.cas=cas:=by rw[<-hq]
 have epa:q.parts=[⟨id,n⟩]:=by rw[<-hq]
 have epo:partsOf q=[id]:=by rw[<-hq];rfl
 have ecu:q.cur=base:=by rw[<-hq]
 have eun:q.units=0:=by rw[<-hq]
 have hpr:ProperP t (l++[q]) (rkB o q.id):=proper_box ho hp (by rw[eid];exact hnb) hb (by rw[ecas];exact hcls) (by rw[epo];intro c hc;rw[List.mem_singleton.1 hc];exact a4) (by rw[epo];simp) hl (by rw[epa];simp);have hck:=hpr.check;obtain⟨-,-,⟨o',ho'⟩,-⟩:=checkP_ok hck;have hpb:prodOf (l++[q]) bid=some q:=by rw[<-eid];exact prodOf_last (by rw[eid];exact hnb)
 have hop:openE t (l++[q]) r base bid day=0:=openE_of hck a2 a3 (by rw[idsP_append,eid];exact List.mem_append_right _ (by simp));have eV:∀x∈idsP l,totV (l++[q]) r base day x=totV l r base day x:=λx hx=>totS_alike ho ho' (λy hy=>prodOf_append hy) (λ_ _=>rfl) _ x (Nat.lt_succ_self _) hx
 have eC:∀x∈idsP l,totC t (l++[q]) r base day x=totC t l r base day x:=λx hx=>totS_alike ho ho' (λy hy=>prodOf_append hy) (λp hp=>by
  unfold ctlP
  rw[eV _ (List.mem_map_of_mem hp)]) _ x (Nat.lt_succ_self _) hx
 have lv:=totV_low ho a4 h2;have lc:=((ctl_le (t:=t) ho hp.good r base day _ id (Nat.lt_succ_self _) a4 h2).2.1 (by rw[<-h3];exact hc)).1;refine⟨hck,?_,?_⟩
 ·rw[valueP_ok hop,totV_eq ho' r base day hpb,ecu,eun,conv_base a2 a3,epa,h4];show plusR (rt0,0) n (totV (l++[q]) r base day id)=_∨(plusR (rt0,0) n (totV (l++[q]) r base day id)).2=2;rw[eV id a4];exact plus_box h2 lv.den
 ·intro h0;rw[valueP_ok hop]at h0;unfold controlP;rw[if_neg (by simpa using hop),if_neg (by simpa using h0),totC_eq (t:=t) ho' r base day hpb,ecas,hctl,epa];simp only[Bool.false_eq_true,if_false];show plusR (rt0,0) n (totC t (l++[q]) r base day id)=mulR (ofR n 1) (controlP t l r base id day).1∨(plusR (rt0,0) n (totC t (l++[q]) r base day id)).2=2;rw[eC id a4,h3];exact plus_box (by rw[<-h3];exact hc) lc.den
theorem share_two{t:TarD}{l:List ProdD}{r:List RateD}{base id:ByteArray}{day:Int}(hc:(controlP t l r base id day).2=0)(h:(shareP t l r base id day).2≠0):(shareP t l r base id day).2=2:=by
 obtain⟨p,hp,hk⟩:=control_ok hc;have hdv:=hk.lowV.den;have hdc:=hk.low.den;have hv0:0≤(valueP t l r base id day).1.toQ :=Rat.le_trans hk.pos hk.le;unfold shareP at h⊢;rw[if_neg (by simpa using hc)]at h⊢;split at h
 ·exact absurd rfl h
 rename_i h2;rw[if_neg h2];split at h
 ·rename_i h3;rw[if_pos h3];rcases mulR_cases (ofR 100 1) (controlP t l r base id day).1 with⟨_,_,e⟩|e
  ·rw[e]at h3;exact absurd rfl h3
  ·rw[e]
 rename_i h3;rw[if_neg h3];obtain⟨ml,mq⟩:=mulR_val (a:=ofR 100 1) (b:=(controlP t l r base id day).1) (by simpa using h3) (ofR_den (by decide)) hdc;rw[ofR_q]at mq;split at h
 ·rename_i h4;rw[if_pos h4];unfold divR at h4⊢;rw[if_neg h2]at h4⊢;split
  ·rfl
  ·rename_i h5;rw[if_neg h5]at h4;exact absurd rfl h4
 rename_i h4;exfalso;apply h;obtain⟨dl,-,dq⟩:=divR_ok ml hk.lowV (by simpa using h4);rw[mq]at dq;generalize (divR (mulR (ofR 100 1) (controlP t l r base id day).1).1 (valueP t l r base id day).1).1=q at*;have hv:0<(valueP t l r base id day).1.toQ :=Rat.lt_of_le_of_ne hv0 λe=>h2 (hk.lowV.eq_zero.1 e.symm)
 have hle:=hk.le;have hpos:=hk.pos;have h100:(0:Rat)≤((100:Int):Rat):=by decide
 have hq0:0≤q.toQ:=by
  refine Rat.le_of_mul_le_mul_right (c:=(valueP t l r base id day).1.toQ) ?_ hv;rw[Rat.zero_mul,dq];exact Rat.mul_nonneg h100 hpos
 have hq1:q.toQ≤((100:Int):Rat):=by
  refine Rat.le_of_mul_le_mul_right (c:=(valueP t l r base id day).1.toQ) ?_ hv;rw[dq];exact Rat.mul_le_mul_of_nonneg_left hle h100
 have hneg:=dl.nonneg.1 hq0;obtain⟨f1,f2⟩:=floor_le dl hneg;have hn100:((q.num / q.den:Nat):Int)≤100:=Rat.intCast_le_intCast.1 (Rat.le_trans f1 hq1);unfold floorR;rw[hneg];simp only[Bool.false_eq_true,if_false];rw[if_pos ⟨Int.le_trans (by decide) (Int.natCast_nonneg _),Int.le_trans hn100 (by decide)⟩]
theorem qcomm(a b c:Rat):a*(b*c)=b*(a*c):=by rw[<-Rat.mul_assoc,Rat.mul_comm a,Rat.mul_assoc]
theorem share_times{t t':TarD}{l l':List ProdD}{r r':List RateD}{base base' id id':ByteArray}{day day' n:Int}(hn:1≤n)(h1:(controlP t l r base id day).2=0)(h2:(controlP t' l' r' base' id' day').2=0)
  (hv:(mulR (ofR n 1) (valueP t l r base id day).1)=(valueP t' l' r' base' id' day'))(hc:(mulR (ofR n 1) (controlP t l r base id day).1)=(controlP t' l' r' base' id' day'))
  (h3:(shareP t l r base id day).2=0)(h4:(shareP t' l' r' base' id' day').2=0):(shareP t' l' r' base' id' day').1=(shareP t l r base id day).1:=by
 obtain⟨p,hp,hk⟩:=control_ok h1;obtain⟨p',hp',hk'⟩:=control_ok h2;have hdv:=hk.lowV.den;have hdc:=hk.low.den
 have hN:(0:Rat)<(n:Rat):=by
  have:=Rat.intCast_lt_intCast.2 (show(0:Int)<n by omega);simpa using this
 obtain⟨vl,vq⟩:=mulR_val (a:=ofR n 1) (b:=(valueP t l r base id day).1) (by rw[hv];exact hk'.val) (ofR_den (by decide)) hdv;obtain⟨cl,cq⟩:=mulR_val (a:=ofR n 1) (b:=(controlP t l r base id day).1) (by rw[hc];exact h2) (ofR_den (by decide)) hdc;rw[ofR_q,hv]at vq;rw[ofR_q,hc]at cq;unfold shareP at h3 h4⊢;have k1:¬(controlP t l r base id day).2≠0:=by simpa using h1
 have k2:¬(controlP t' l' r' base' id' day').2≠0:=by simpa using h2
 rw[if_neg k1]at h3⊢;rw[if_neg k2]at h4⊢
 have hz:(valueP t' l' r' base' id' day').1.num =0↔(valueP t l r base id day).1.num =0:=by
  rw[<-hk'.lowV.eq_zero,<-hk.lowV.eq_zero,vq,Rat.mul_eq_zero];constructor
  ·rintro(h|h)
   ·rw[h]at hN;exact absurd hN Rat.lt_irrefl
   ·exact h
  ·exact .inr
 by_cases h5:(valueP t l r base id day).1.num =0
 ·rw[if_pos h5,if_pos (hz.2 h5)]
 ·have h5':=λh=>h5 (hz.1 h)
  rw[if_neg h5]at h3⊢;rw[if_neg h5']at h4⊢;split at h3
  ·contradiction
  rename_i h6;split at h4
  ·contradiction
  rename_i h6';rw[if_neg h6,if_neg h6'];split at h3
  ·contradiction
  rename_i h7;split at h4
  ·contradiction
  rename_i h7';rw[if_neg h7,if_neg h7'];obtain⟨ml,mq⟩:=mulR_val (a:=ofR 100 1) (b:=(controlP t l r base id day).1) (by simpa using h6) (ofR_den (by decide)) hdc;obtain⟨ml',mq'⟩:=mulR_val (a:=ofR 100 1) (b:=(controlP t' l' r' base' id' day').1) (by simpa using h6') (ofR_den (by decide)) hk'.low.den;obtain⟨dl,-,dq⟩:=divR_ok ml hk.lowV (by simpa using h7);obtain⟨dl',-,dq'⟩:=divR_ok ml' hk'.lowV (by simpa using h7')
  have:(divR (mulR (ofR 100 1) (controlP t' l' r' base' id' day').1).1 (valueP t' l' r' base' id' day').1).1=(divR (mulR (ofR 100 1) (controlP t l r base id day).1).1 (valueP t l r base id day).1).1:=by
   refine toQ_inj dl' dl ?_;(have hv0:(valueP t' l' r' base' id' day').1.toQ ≠0:=λh=>h5' (hk'.lowV.eq_zero.1 h));generalize (divR (mulR (ofR 100 1) (controlP t' l' r' base' id' day').1).1 (valueP t' l' r' base' id' day').1).1.toQ =Q' at*;generalize (divR (mulR (ofR 100 1) (controlP t l r base id day).1).1 (valueP t l r base id day).1).1.toQ =Q at*
   have e:Q'*(valueP t' l' r' base' id' day').1.toQ =Q*(valueP t' l' r' base' id' day').1.toQ :=by
    rw[dq',mq',cq,vq,qcomm Q,dq,mq,qcomm]
   have:=congrArg (· / (valueP t' l' r' base' id' day').1.toQ) e;simp only[Rat.mul_div_cancel hv0]at this;exact this
  rw[this]
theorem box_more{v:Rt}{n m:Int}(hv:0<v.den)(hp:0≤v.toQ)(hnm:n≤m)(h1:(mulR (ofR n 1) v).2=0)(h2:(mulR (ofR m 1) v).2=0)(h3:(cmpR (mulR (ofR n 1) v).1 (mulR (ofR m 1) v).1).2=0):(cmpR (mulR (ofR n 1) v).1 (mulR (ofR m 1) v).1).1≤0:=by
 obtain⟨l1,q1⟩:=mulR_val h1 (ofR_den (by decide)) hv;obtain⟨l2,q2⟩:=mulR_val h2 (ofR_den (by decide)) hv;rw[ofR_q]at q1 q2;rcases cmpR_eq l1 l2 h3 with⟨_,e⟩|⟨_,e⟩|⟨h,_⟩
 ·rw[e];decide
 ·rw[e];decide
 ·exfalso;rw[q1,q2]at h;exact absurd (Rat.mul_le_mul_of_nonneg_right (Rat.intCast_le_intCast.2 hnm) hp) (Rat.not_le.2 h)
section
open Go.Shelf
theorem Tryz.eComp:ElemIs Tryz.prog 55 2 24:=elemIs_of (z:= .agg #[.string ⟨#[]⟩,.int .i64 0]) (by kernel_rfl) rfl (by decide)
theorem comps_own{Z:Zone}{w:World}{base:Nat}{t:TypeId}{v:Value}{l:List CompD}(h:w.ownsRow base t 2 v l.length (l.flatMap CompD.cells))(hf:∀c∈l,c.fit)(hl:l.length*24≤140737488355328)(hz:∀b,v.ownBlock=some b->Z b):Comps Z w v l:=by
 obtain⟨A,cap,rfl,h1,h2,h3⟩:=Row.of_own h (by decide);refine⟨⟨A,cap,rfl,h1,by simpa[maxLen]using h2,hl,?_⟩,hf⟩
 have he:EachR (λcs c=>cs=CompD.cells c) 2 l (l.map CompD.cells):=by
  clear h hf hl h1 h2 h3 hz
  induction l with
  |nil=>trivial
  |cons c l ih=>exact⟨⟨rfl,rfl⟩,ih⟩
 cases l with
 |nil=>unfold SeqR;trivial
 |cons c r=>
  obtain⟨b,off,rfl,hb,hc⟩:=h3 (by simp[CompD.cells]);exact EachR.rows (hz b rfl) he λj u hu=>hc j u (by simpa[List.flatMap]using hu)
structure TurF (w W:World) (tv fv:Array Value):Prop where
 t:Blk W w.heap.size 27 tv
 f:Blk W (w.heap.size+1) 53 fv
 be:Below w.heap.size w W
theorem TurF.below{w W W':World}{tv fv:Array Value}(h:TurF w W tv fv)(hb:Below W.heap.size W W'):TurF w W' tv fv:=
 ⟨h.t.below hb h.t.lt,h.f.below hb h.f.lt,HBEL_trans h.be hb⟩
theorem TurF.new(w:World)(tv fv:Array Value):TurF w ((w.alloc (.cells tv 27)).alloc (.cells fv 53)) tv fv:=by
 have h1:=Blk.new (w.alloc (.cells tv 27)) 53 fv;rw[World.size_alloc]at h1;exact⟨(Blk.new w _ _).alloc _,h1,(below1 w _).alloc (by simp) _⟩
structure BackR (w W:World) (tv fv:Array Value) (v:Value) (ps:List ProdD) (csl:List (List Value)):Prop where
 fr:TurF w W tv fv
 own:W.ownsRow (w.heap.size+1+1) 53 5 v ps.length csl.flatten
 each:EachR (ProdR (λb=>b<W.heap.size∧v.ownBlock≠some b) W) 5 ps csl
theorem BackR.push{w wr U w5:World}{tv fv:Array Value}{v v5:Value}{ps:List ProdD}{csl:List (List Value)}{p:ProdD}{cs:List Value}{o:Obj}(h:BackR w wr tv fv v ps csl)(hU:Below wr.heap.size wr U)(hg:(U.alloc o).grownBy w5 v.ownBlock)
  (ho:w5.ownsRow (w.heap.size+1+1) 53 5 v5 (ps.length+1) (csl.flatten++cs))(hat:v5.ownBlock=v.ownBlock∨v5.ownBlock=some (U.alloc o).heap.size)(hp:ProdR (λb=>b<U.heap.size∧v.ownBlock≠some b) U cs p):
  BackR w w5 tv fv v5 (ps++[p]) (csl++[cs]):=by
 have hUa:Below wr.heap.size wr (U.alloc o):=hU.alloc hU.size o;have hlo:∀k,v.ownBlock=some k->w.heap.size+1+1≤k:=λk e=>(h.own.lt k e).1
 have hs1:=hUa.size;have hs2:(U.alloc o).heap.size =U.heap.size+1:=by simp
 have hs3:(U.alloc o).heap.size ≤w5.heap.size:=hg.size
 have hz:∀b,b<U.heap.size∧v.ownBlock≠some b->b<w5.heap.size∧v5.ownBlock≠some b:=by
  intro b ⟨h1,h2⟩;refine⟨by omega,λe=> ?_⟩;rcases hat with e'|e'
  ·exact h2 (by rw[<-e',e])
  ·rw[e']at e;injection e with e;omega
 have hUs:wr.heap.size≤U.heap.size:=hU.size;refine⟨⟨(h.fr.t.below hUa h.fr.t.lt).grown hg (λe=>by have:=hlo _ e;omega),(h.fr.f.below hUa h.fr.f.lt).grown hg (λe=>by have:=hlo _ e;omega),?_⟩,by simpa using ho,?_⟩
 ·have h2:(U.alloc o).ownsRow (w.heap.size+1+1) 53 5 v ps.length csl.flatten:=own_keep (Z:=λ_=>True) h.own (Keeps.of_below hUa) (λ_ _=>trivial);exact below_own (HBEL_trans h.fr.be hUa) h2 hg (Nat.le_trans h.fr.be.size hs1) (by omega)
 ·refine(h.each.imp λcs' p' hp'=> ?_).append (EachR.one ?_ hp.size)
  ·have k1:Keeps (λb=>b<wr.heap.size∧v.ownBlock≠some b) wr w5:=Keeps.grown (Keeps.of_below hUa) hg (λk e _ hk=>hk.2 e);exact(hp'.keep k1).mono (λb hb=>hz b ⟨by have:=hb.1;omega,hb.2⟩)
  ·have k1:Keeps (λb=>b<U.heap.size∧v.ownBlock≠some b) U w5:=Keeps.grown (Keeps.of_below (below1 U o)) hg (λk e _ hk=>hk.2 e);exact(hp.keep k1).mono hz
structure InnR (wr W:World) (id:ByteArray) (CA:Option Addr) (cn ccap:Nat) (cur:ByteArray) (un:Int) (pv:Value) (L:List CompD):Prop where
 pb:Blk W wr.heap.size 53 #[.string id,.slice CA cn ccap,.string cur,.int .i64 un,pv]
 own:W.ownsRow (wr.heap.size+1) 55 2 pv L.length (L.flatMap CompD.cells)
 be:Below wr.heap.size wr W
theorem InnR.push{wr W w5:World}{id cur:ByteArray}{CA:Option Addr}{cn ccap:Nat}{un:Int}{pv v5:Value}{L:List CompD}{c:CompD}{o:Obj}(h:InnR wr W id CA cn ccap cur un pv L)(hg:(W.alloc o).drew.grownBy w5 pv.ownBlock)
  (ho:w5.ownsRow (wr.heap.size+1) 55 2 v5 (L.length+1) (L.flatMap CompD.cells++CompD.cells c))(_hat:v5.ownBlock=pv.ownBlock∨v5.ownBlock=some (W.alloc o).drew.heap.size):
  InnR wr (w5.setCell ⟨wr.heap.size,4,none⟩ v5) id CA cn ccap cur un v5 (L++[c]):=by
 have hlo:pv.ownBlock≠some wr.heap.size:=λe=>by have:=(h.own.lt _ e).1;omega
 have hlo5:v5.ownBlock≠some wr.heap.size:=λe=>by have:=(ho.lt _ e).1;omega
 refine⟨((h.pb.alloc o).drew.grown hg hlo).set_ 4 _,?_,?_⟩
 ·have h1:=own_keep (Z:=λb=>b≠wr.heap.size) ho ((Keeps.refl _ _).setCell (p:=⟨wr.heap.size,4,none⟩) (λ_ h=>h rfl) v5) (λk hk e=>hlo5 (by rw[hk,e]));simpa using h1
 ·have h1:Below wr.heap.size wr (W.alloc o).drew :=(h.be.alloc h.be.size o).drew;have h2:(W.alloc o).drew.ownsRow (wr.heap.size+1) 55 2 pv L.length (L.flatMap CompD.cells):=h.own.alloc o;exact(below_own h1 h2 hg h1.size (by omega)).setCell (p:=⟨wr.heap.size,4,none⟩) (Nat.le_refl _) v5
theorem oper_appendR{P:Program}{o:Oper}{a:Act}{w:World}{K:Act->World->Prop}{Q:Exit->Act->World->Prop}
  (s x:Operand)(t:TypeId)(ho:o.op= .call {callee:= .builtin .append,args:=#[s,x],argTypes:=#[t,t]})
  {base:Nat}{e:TypeId}{size bytes:Nat}(ht:P.underlying t=some (.slice e))(El:ElemIs P e size bytes){v:Value}{n:Nat}{xs:List Value}(hs:a.eval s=v)(hown:w.ownsRow base e size v n xs)
  {A:Option Addr}{m c:Nat}(hx:a.eval x= .slice A m c){Zn:Zone}{news:List Value}(hn:news.length=m*size)(hr:Row Zn w A news)(h1:∀u∈news,u.oneCell'=true)(h63:n+m≤maxLen)(hb:(n+m)*bytes≤140737488355328)(hbase:base≤w.heap.size)
  (hK:∀v' w',w'.ownsRow base e size v' (n+m) (xs++news)->w.grownBy w' v.ownBlock->(v'.ownBlock=v.ownBlock∨v'.ownBlock=some w.heap.size)->K (a.put o.dst v') w'):
  Oper.wp P o a w K Q:=by
 obtain⟨v',w',hrun,h2,h3,h4⟩:=run_appendN (ty:=o.type) ht El hown hn hr h1 h63 hb hbase;unfold Oper.wp execOp;simp only[ho,resolve,invoke,builtin,Sem.run_bind,Sem.run_pure,Result.andThen_ok,List.map_toArray,List.map_cons,List.map_nil,hs,hx];rw[hrun];exact hK _ _ h2 h3 h4
theorem wpList_appendR{P:Program}{ops:Array Oper}{rest:List Oper}{o:Oper}{a:Act}{w:World}{Q:Exit->Act->World->Prop}(hgd:o.guard=none)
  (s x:Operand)(t:TypeId)(ho:o.op= .call {callee:= .builtin .append,args:=#[s,x],argTypes:=#[t,t]})
  {base:Nat}{e:TypeId}{size bytes:Nat}(ht:P.underlying t=some (.slice e))(El:ElemIs P e size bytes){v:Value}{n:Nat}{xs:List Value}(hs:a.eval s=v)(hown:w.ownsRow base e size v n xs)
  {A:Option Addr}{m c:Nat}(hx:a.eval x= .slice A m c){Zn:Zone}{news:List Value}(hn:news.length=m*size)(hr:Row Zn w A news)(h1:∀u∈news,u.oneCell'=true)(h63:n+m≤maxLen)(hb:(n+m)*bytes≤140737488355328)(hbase:base≤w.heap.size)
  (h:∀v' w',w'.ownsRow base e size v' (n+m) (xs++news)->w.grownBy w' v.ownBlock->(v'.ownBlock=v.ownBlock∨v'.ownBlock=some w.heap.size)->wpList P ops Q rest (a.put o.dst v') w'):wpList P ops Q (o::rest) a w:=
 wpList_plain hgd λ_ hK=>oper_appendR s x t ho ht El hs hown hx hn hr h1 h63 hb hbase λv' w' a1 a2 a3=>hK _ _ (h v' w' a1 a2 a3)
theorem wpList_eqSame{ops:Array Oper}{rest:List Oper}{o:Oper}{a:Act}{w:World}{Q:Exit->Act->World->Prop}(hgd:Region.wanted o (yielded ops a.tmps)=true)(x y:Operand)(ho:o.op= .binOp .eql 37 x y 37)(b0:Bool)(b1 b2:ByteArray)
  (hx:a.eval x= .agg #[.bool b0,.string b1,.string b2])(hy:a.eval y= .agg #[.bool b0,.string b1,.string b2])
  (h:wpList Tryz.prog ops Q rest (a.put o.dst (.bool true)) w):wpList Tryz.prog ops Q (o::rest) a w:=
 BigFrame.wpList_want hgd λK hK=>by
  have h1:(eqGuard .eql 37 x y (.agg #[.bool b0,.string b1,.string b2]) (.agg #[.bool b0,.string b1,.string b2])).run Tryz.prog w= .ok () w:=run_eqGuard_agg w .eql 37 x y _ _ (by kernel_rfl)
  have h2:(binOp .eql 37 (.agg #[.bool b0,.string b1,.string b2]) (.agg #[.bool b0,.string b1,.string b2])).run Tryz.prog w= .ok (.bool true) w:=by
   (have e:∀z:ByteArray,(z==z)=true:=λz=>(MapKept.bytes_beq _ _).2 rfl);rw[run_eql_struct,run_eql_rat,e,e];simp
  unfold Oper.wp execOp;simp only[ho,hx,hy,Sem.run_bind,h1,h2,Result.andThen_ok,Sem.run_pure];exact hK _ _ h
theorem rtE_is'{M:Rt × Int}(h:M.2=0):rtE M=rtV M.1:=by obtain⟨r,e⟩:=M;exact if_pos h
theorem EqR.same{x y:Rt × Int}(h:EqR x y):rtE x=rtE y:=by
 by_cases h0:x.2=0
 ·rw[rtE_is' h0,rtE_is' (h.1.symm.trans h0),h.2 h0]
 ·obtain⟨a,b⟩:=x;obtain⟨c,d⟩:=y;rw[rtE_err h0,rtE_err (λh1=>h0 (h.1.trans h1))]
theorem each_one{Z:Zone}{w:World}:∀{ps:List ProdD}{csl:List (List Value)},EachR (ProdR Z w) 5 ps csl->∀u∈csl.flatten,u.oneCell'=true
 |[],[],_,_,h=>by simp at h
 |p::ps,c::cs,h,u,hu=>by
  rw[List.flatten_cons,List.mem_append]at hu;rcases hu with hu|hu
  ·obtain⟨CA,ccap,PA,pcap,rfl,-⟩:=h.1.1.form2;simp at hu;rcases hu with rfl|rfl|rfl|rfl|rfl<;>rfl
  ·exact each_one h.2 u hu
 |[],_::_,h,_,_=>h.elim
 | _::_,[],h,_,_=>h.elim
theorem cons_prods{wr W:World}{base:Nat}{t:TypeId}{v:Value}{ps:List ProdD}{fp:ProdD}{csl:List (List Value)}{fcs:List Value}(hb:Below wr.heap.size wr W)(hE:EachR (ProdR (λb=>b<wr.heap.size) wr) 5 ps csl)(hf:ProdR (λb=>b<wr.heap.size) wr fcs fp)
  (ho:W.ownsRow base t 5 v (1+ps.length) (fcs++csl.flatten))(hl:ps.length≤60):Prods (λb=>b<W.heap.size) W v (fp::ps):=by
 have hk:∀cs p,ProdR (λb=>b<wr.heap.size) wr cs p->ProdR (λb=>b<W.heap.size) W cs p:=λcs p h=>(h.keep (Keeps.of_below hb)).mono λb h=>Nat.lt_of_lt_of_le h hb.size
 refine prods_own (l:=fp::ps) (csl:=fcs::csl) (by rw[List.length_cons,Nat.add_comm];simpa using ho) ⟨⟨hk _ _ hf,hf.size⟩,hE.imp hk⟩ (by rw[List.length_cons];omega) (λb hb=>(ho.lt b hb).2)
theorem agg3{a a':Bool}{b b' c c':ByteArray}(h:Value.agg #[.bool a,.string b,.string c]= .agg #[.bool a',.string b',.string c']):a=a'∧b=b'∧c=c':=by
 injection h with h;simpa using h
def SawB(p:Prop)(v:Value):Prop:=∃b:Bool,v= .bool b∧(b=true->p)
theorem tkN{P:Program}{ops:Array Oper}{Q:Exit->Act->World->Prop}{md:Region.Mode}{S:World->Prop}{s:Nat}(i:Nat){oi:Oper}{fuel:Nat}{listed:Array Bool}{a:Act}{w:World}(hS:S w)
  (h:wpAnyS P md ops Q S s fuel (listed.setIfInBounds i true) (a.put oi.dst undef) w)(hi:ops[i]? =some oi:=by exact rfl)(hs:Region.noSelect ops=true:=by kernel_rfl)
  (hf:(Region.free md ops listed i&&(Region.ready md ops listed).contains i&&(i !=s))=true:=by kernel_rfl)
  (hg:Region.wanted oi (yielded ops a.tmps)=false:=by kernel_rfl)(hQ:∀c a w,Q (.panic c) (a.put oi.dst undef) w->Q (.panic c) a w:=by exact λ_ _ _ h=>h):wpAnyS P md ops Q S s (fuel+1) listed a w:=
 wpAnyS_take0 hi hs hf hQ (Or.inr ⟨hg,rfl⟩) (Or.inr hS) h
def chainOk(md:Region.Mode)(ops:Array Oper)(listed:Array Bool)(L:List Nat)(i s:Nat):Bool:=
 L.all (λj=>(Region.waitsFor md ops j i||L.any (λk=>Region.waitsFor md ops j k))&& !(listed.getD j true)&&(j !=i))&&L.contains s
theorem wpAnyS_firstC{P:Program}{ops:Array Oper}{Q:Exit->Act->World->Prop}{md:Region.Mode}{S:World->Prop}{s i:Nat}{oi:Oper}{v:Value}(L:List Nat)(hi:ops[i]? =some oi)(hsel:∀(j:Nat)(o:Oper) cs b,ops[j]? =some o->o.op≠ .select cs b)
  (hQ:∀c a w,Q (.panic c) (a.put oi.dst v) w->Q (.panic c) a w)(hL:∀j∈L,j≠i∧∃k,(k=i∨k∈L)∧∃os,ops[j]? =some os∧∃e∈os.after,Region.binds md e=true∧e.on=k)(hsL:s∈L):
  ∀(fuel:Nat)(listed:Array Bool)(a:Act)(w:World),(∀j∈L,listed.getD j true=false)->
   (∀j oj,ops[j]? =some oj->j≠i->listed.getD j true=false->(∀e∈oj.after,Region.binds md e=true->e.on≠i)->oi.apart ops oj=true)->
   i∈Region.ready md ops listed->YieldsIf P ops S oi v a->S w->
   wpAnyS P md ops Q S s fuel (listed.setIfInBounds i true) (a.put oi.dst v) w->wpAnyS P md ops Q S s (fuel+1) listed a w:=by
 intro fuel;have hsi:i≠s:=λe=>(hL s hsL).1 e.symm
 induction fuel with
 |zero=>
  intro listed a w _ _ hr hy hS H;refine⟨λh=>(by rw[h]at hr;cases hr),λj hj=> ?_⟩;by_cases hji:j=i
  ·subst hji;exact hy.wpOp hi hS ⟨Or.inr hS,H⟩
  ·have:=ready_mono hj hji;rw[H.1]at this;cases this
 |succ fuel ih=>
  intro listed a w hls hfree hr hy hS H;refine⟨λh=>(by rw[h]at hr;cases hr),λj hj=> ?_⟩;by_cases hji:j=i
  ·subst hji;exact hy.wpOp hi hS ⟨Or.inr hS,H⟩
  ·have h1:=H.2 j (ready_mono hj hji);obtain⟨hjun,oj,hoj,hall⟩:=mem_ready.1 hj
   have hun:∀k,(k=i∨k∈L)->∀e∈oj.after,Region.binds md e=true->e.on≠k:=λk hk e he hb heq=>by
    have h1:=hall e he hb
    have h0:listed.getD k true=false:=by
     rcases hk with rfl|hk
     ·exact(mem_ready.1 hr).1
     ·exact hls k hk
    rw[heq]at h1;rcases Nat.lt_or_ge k listed.size with h'|h'
    ·simp[h']at h0 h1;rw[h0]at h1;cases h1
    ·simp[Array.getElem?_eq_none h']at h1
   have hnot:∀e∈oj.after,Region.binds md e=true->e.on≠i:=hun i (Or.inl rfl)
   have hjL:j∉L:=λh=>by
    obtain⟨_,k,hk,os,hos,e,he,hb,hon⟩:=hL j h;rw[hos]at hoj;injection hoj with hoj;subst hoj;exact hun k hk e he hb hon
   (have hjs:j≠s:=λe=>hjL (e▸hsL));have h2:=wpOp_putIf hoj (hfree j oj hoj hji hjun hnot) (λcs b=>hsel i oi cs b hi) (λcs b=>hsel j oj cs b hoj) hQ hy h1
   have hfree':∀k ok,ops[k]? =some ok->k≠i->(listed.setIfInBounds j true).getD k true=false->
     (∀e∈ok.after,Region.binds md e=true->e.on≠i)->oi.apart ops ok=true:=λk ok hk hki hun hno=>by
    refine hfree k ok hk hki ?_ hno;by_cases hjk:j=k
    ·subst hjk;exact hjun
    ·rw[getD_set_ne true hjk]at hun;exact hun
   refine wpOp_mono (λa' w' h3=> ?_) h2
   have hS':S w':=by
    rcases h3.2.1 with h|h
    ·rw[getD_set_ne true hjs,getD_set_ne true hsi,hls s hsL]at h;cases h
    ·exact h
   refine⟨Or.inr hS',ih (listed.setIfInBounds j true) a' w' (λk hk=>by
    (have hjk:j≠k:=λe=>hjL (by rw[e];exact hk));rw[getD_set_ne true hjk]
    exact hls k hk) hfree' (ready_mono hr (Ne.symm hji)) h3.1 hS' ?_⟩
   rw[Array.setIfInBounds_comm _ _ hji];exact h3.2.2
theorem tkC{P:Program}{ops:Array Oper}{Q:Exit->Act->World->Prop}{md:Region.Mode}{S:World->Prop}{s:Nat}(i:Nat)(L:List Nat){oi:Oper}(v:Value){fuel:Nat}{listed:Array Bool}{a:Act}{w:World}(hS:S w)(hy:∀w,S w->(execOp a.eval oi).run P w= .ok (.value v) w)
  (h:wpAnyS P md ops Q S s fuel (listed.setIfInBounds i true) (a.put oi.dst v) w)(hi:ops[i]? =some oi:=by exact rfl)(hs:Region.noSelect ops=true:=by kernel_rfl)
  (hf:(Region.free md ops listed i&&(Region.ready md ops listed).contains i&&chainOk md ops listed L i s)=true:=by kernel_rfl)
  (hg:Region.wanted oi (yielded ops a.tmps)=true:=by kernel_rfl)(hQ:∀c a w,Q (.panic c) (a.put oi.dst v) w->Q (.panic c) a w:=by exact λ_ _ _ h=>h):wpAnyS P md ops Q S s (fuel+1) listed a w:=by
 simp only[Bool.and_eq_true]at hf;obtain⟨⟨h1,h2⟩,h3⟩:=hf;unfold chainOk at h3;simp only[Bool.and_eq_true,List.all_eq_true,Bool.or_eq_true,List.any_eq_true,Bool.not_eq_true',bne_iff_ne,List.contains_iff_mem]at h3;obtain⟨h4,h5⟩:=h3;refine wpAnyS_firstC L hi (Region.noSelect_spec hs) hQ (λj hj=>⟨(h4 j hj).2,?_⟩) (by simpa using h5) fuel listed a w (λj hj=>(h4 j hj).1.2) (Region.free_spec hi h1) (by simpa using h2) (Or.inl ⟨hg,hy⟩) hS h;rcases(h4 j hj).1.1 with hw|⟨k,hk,hw⟩
 ·exact⟨i,Or.inl rfl,Region.waitsFor_spec hw⟩
 ·exact⟨k,Or.inr hk,Region.waitsFor_spec hw⟩
def TurnedOk(t:TarD)(l bl:List ProdD)(r:List RateD)(base id:ByteArray)(day:Int):Prop:=
 (valueP t l r base id day).2≠2->(valueP t bl r base id day).2≠2->(controlP t l r base id day).2≠2->(controlP t bl r base id day).2≠2->
  EqR (valueP t l r base id day) (valueP t bl r base id day)∧EqR (controlP t l r base id day) (controlP t bl r base id day)∧shareP t l r base id day=shareP t bl r base id day
theorem ids_nodup{t:TarD}{l:List ProdD}(h:checkP t l=0):(idsP l).Nodup :=by
 obtain⟨-,-,⟨o,c⟩,-⟩:=checkP_ok h;exact c.ids
theorem turned_plain{t:TarD}{l:List ProdD}{r:List RateD}{base id:ByteArray}{day:Int}(h:checkP t l=0):TurnedOk t l (turnL l) r base id day:=by
 obtain⟨o,-,hp⟩:=proper_of h;exact turned_ok h (proper_turn hp).check (alike_turn (ids_nodup h)) (by rw[idsP_turn];simp)
theorem turned_more{t:TarD}{l:List ProdD}{r:List RateD}{base id:ByteArray}{day:Int}{fp:ProdD}(h:checkP t l=0)(h':checkP t (fp::turnL l)=0)(hf:findP l fp.id<0)(hid:id≠fp.id):TurnedOk t l (fp::turnL l) r base id day:=by
 refine turned_ok h h' (alike_cons (alike_turn (ids_nodup h)) (findP_neg.1 hf)) ?_;have e:idsP (fp::turnL l)=fp.id::(idsP l).reverse :=by rw[<-idsP_turn];rfl
 rw[e];simp[hid]
theorem drop_turn{l:List ProdD}{i:Nat}(h:i<l.length):(l.drop i).reverse.map turnP=(l.drop (i+1)).reverse.map turnP++[turnP l[i]]:=by
 rw[List.drop_eq_getElem_cons h,List.reverse_cons,List.map_append];rfl
theorem drop_comp{l:List CompD}{i:Nat}(h:i<l.length):(l.drop i).reverse =(l.drop (i+1)).reverse ++[l[i]]:=by
 rw[List.drop_eq_getElem_cons h];simp
theorem turn_zero(l:List ProdD):(l.drop 0).reverse.map turnP=turnL l:=by unfold turnL;simp
end
section
open Go.Shelf
theorem check_small{t:TarD}{l:List ProdD}(h:checkP t l=0):l.length≤60∧∀p∈l,p.parts.length≤12:=by
 obtain⟨-,-,⟨o,c⟩,-⟩:=checkP_ok h;have hs:=c.small;unfold largeP at hs;simp only[Bool.or_eq_false_iff,decide_eq_false_iff_not,List.any_eq_false,decide_eq_true_eq]at hs;exact⟨by omega,λp hp=>by have:=hs.2 p hp;omega⟩
theorem partsTurned_any(Z:Zone)(vd vl v vr:Value)(t:TarD)(l:List ProdD)(r:List RateD)(base id:ByteArray)(day:Int)(w:World)(ht:TarR Z w vd vl t)(h:Prods Z w v l)(hr:Rates Z w vr r)(hz:∀b,Z b->b<w.heap.size)
  (hbs:base.size≤140737488355328)(his:id.size≤140737488355328)(hd:I64 day)(htab:TabB w.heap.size w)(fp:ProdD)(fcs:List Value)(hfp:ProdR Z w fcs fp):
  Calls Tryz.prog 6 #[.agg #[vd,vl],v,vr,.string base,.string id,.int .i64 day,.agg fcs.toArray] w λe w'=>e= .returned (.bool true)∧Below w.heap.size w w':=by
 have HA:=hid (ArgP.mk ht h hr hz hbs his htab);obtain⟨A,cap,hv,-,hseq⟩:=h.form;obtain⟨A2,cap2,hvl⟩:∃A2 cap2,vl= .slice A2 t.lines.length cap2:=by obtain⟨⟨A2,cap2,e,_⟩⟩:=ht.l;exact⟨A2,cap2,e⟩
 obtain⟨A3,cap3,hvd⟩:∃A3 cap3,vd= .slice A3 t.dom.length cap3:=by obtain⟨⟨A3,cap3,e,_⟩,_⟩:=ht.d;exact⟨A3,cap3,e⟩
 obtain⟨A4,cap4,hvr⟩:∃A4 cap4,vr= .slice A4 r.length cap4:=by obtain⟨⟨A4,cap4,e,_⟩,_⟩:=hr;exact⟨A4,cap4,e⟩
 have HPA:=hid (λk(hk:k<l.length)=>prod_at hseq hz hk);have HZ:=hid hz;obtain⟨FCA,fccap,FPA,fpcap,rfl,-,-,ffit⟩:=hfp.form2;have HFP:=hid hfp;have HFID:=hid ffit.1;clear ht h hr hz hbs his htab hd hseq hfp ffit;have HSM:=hid (λW(hW:Below w.heap.size w W)=>small28_any Z vd vl v vr t l r base id W (HA.out.on hW).tar (HA.out.on hW).pr (HA.out.on hW).ra (HA.out.on hW).live (HA.out.on hW).bs (HA.out.on hW).is)
 have HFEW:=hid (λW(hW:Below w.heap.size w W) g(hB:Blk W g 53 #[.string fp.id,.slice FCA fp.cas.length fccap,.string fp.cur,.int .i64 fp.units,.slice FPA fp.parts.length fpcap])=>few28_any (λb=>b<W.heap.size) (λb=>b<W.heap.size) (.slice (some ⟨g,0,none⟩) 1 1) (.slice none 0 0) [fp] [] 1 W
  (prods_own (l:=[fp]) (csl:=[[.string fp.id,.slice FCA fp.cas.length fccap,.string fp.cur,.int .i64 fp.units,.slice FPA fp.parts.length fpcap]]) (own_full hB (Nat.le_refl _) (by decide) rfl) (EachR.one ((HFP.out.keep (Keeps.of_below hW)).mono (λb hb=>Nat.lt_of_lt_of_le (HZ.out b hb) hW.size)) rfl) (by simp) (λb hb=>by injection hb with hb;subst hb;exact hB.lt)) (no_rates _ _))
 have HCH:=hid (λW(hW:Below w.heap.size w W)(hf:t.fine)=>pcheck_any Z vd vl v t l W (HA.out.on hW).tar (HA.out.on hW).pr (HA.out.on hW).live hf (HA.out.on hW).tab);have HFN:=hid (λc W(hW:Below w.heap.size w W)=>find28_any Z v l c W (HA.out.on hW).pr);have HTB:=hid (λW(hW:Below w.heap.size w W)=>(HA.out.on hW).tab);subst hv hvl hvd hvr;have HCK:=hid (@check_small t l);generalize hFB:fewP [fp] [] 1=FB at*;clear hFB;obtain⟨CK,hCK⟩:∃c,c=checkP t l:=⟨_,rfl⟩;have HCKE:=hid hCK;rw[<-hCK]at HCH HCK;obtain⟨dl,hdl⟩:∃dl,dl=t.dom.length:=⟨_,rfl⟩;obtain⟨nl,hnl⟩:∃nl,nl=t.lines.length:=⟨_,rfl⟩;obtain⟨rl,hrl⟩:∃rl,rl=r.length:=⟨_,rfl⟩;obtain⟨ll,hll⟩:∃ll,ll=l.length:=⟨_,rfl⟩;rw[<-hdl,<-hnl,<-hrl,<-hll]at HSM;rw[<-hdl,<-hnl,<-hll]at HCH;rw[<-hll]at HFN;rw[<-hdl,<-hnl,<-hrl,<-hll];rw[<-hdl,<-hnl,<-hrl,<-hll]at HA;obtain⟨fid,hfid⟩:∃x,x=fp.id:=⟨_,rfl⟩;obtain⟨fcn,hfcn⟩:∃x,x=fp.cas.length:=⟨_,rfl⟩;obtain⟨fcur,hfcur⟩:∃x,x=fp.cur:=⟨_,rfl⟩;obtain⟨fun_,hfun⟩:∃x,x=fp.units:=⟨_,rfl⟩;obtain⟨fpn,hfpn⟩:∃x,x=fp.parts.length:=⟨_,rfl⟩;rw[<-hfid,<-hfcn,<-hfcur,<-hfun,<-hfpn]at HFEW HFP;rw[<-hfid,<-hfcn,<-hfcur,<-hfun,<-hfpn];rw[<-hfid]at HFID;have HFE:=hid hfid;have HLL:=hid hll;clear hdl hnl hrl hll hfid hfcn hfcur hfun hfpn hCK;have h0:=TurF.new w #[.slice A3 dl cap3,.slice A2 nl cap2] #[.string fid,.slice FCA fcn fccap,.string fcur,.int .i64 fun_,.slice FPA fpn fpcap];go_enter Tryz.func6,Tryz.ntmps6
 go_upto_region 1 with fail
 generalize ((w.alloc (.cells #[.slice A3 dl cap3,.slice A2 nl cap2] 27)).alloc (.cells #[.string fid,.slice FCA fcn fccap,.string fcur,.int .i64 fun_,.slice FPA fpn fpcap] 53))=w0 at*;have H0:=hid h0;clear h0;go_wp2_with fail
 refine(head28_any w0 (HTB.out _ H0.out.be)).mono ?_;rintro e w1 ⟨rfl,hb⟩;have H1:=hid (H0.out.below hb);clear hb H0;have t0:=H1.out.t.at0;have t1:=H1.out.t.at1;have tl:=H1.out.t.lt;go_wp2_with fail
 refine(HSM.out w1 H1.out.be).mono ?_;rintro e w2 ⟨sb,rfl,hb,hf⟩;have H2:=hid (H1.out.below hb);have HF:=hid hf;clear hb H1 hf t0 t1 tl HSM;cases sb
 ·go_wp2_with fail
  go_ret;exact⟨rfl,H2.out.be⟩
 ·have HFI:=hid (show t.fine from HF.out (by first|exact rfl|trivial));replace HCH:=hid (λW hW=>HCH.out W hW HFI.out);clear HF;have hb:=(Below.refl w2.heap.size w2).alloc (Nat.le_refl _) (.cells #[.string fid,.slice FCA fcn fccap,.string fcur,.int .i64 fun_,.slice FPA fpn fpcap] 53);have HF1:=hid (HFEW.out _ (HBEL_trans H2.out.be hb) w2.heap.size (Blk.new w2 _ _));have H3:=hid (H2.out.below hb);have f0:=H2.out.f.at0;have f1:=H2.out.f.at1;have f2:=H2.out.f.at2;have f3:=H2.out.f.at3;have f4:=H2.out.f.at4;have fl:=H2.out.f.lt;clear hb H2 HFEW;go_wp2_with fail
  refine HF1.out.mono ?_;rintro e w3 ⟨rfl,hw⟩;subst hw;clear f0 f1 f2 f3 f4 fl HF1;generalize w2.alloc (.cells #[.string fid,.slice FCA fcn fccap,.string fcur,.int .i64 fun_,.slice FPA fpn fpcap] 53)=w3 at*;cases FB
  ·(go_wp2_with fail);go_ret;exact⟨rfl,H3.out.be⟩
  ·have t0:=H3.out.t.at0;have t1:=H3.out.t.at1;have tl:=H3.out.t.lt;(go_wp2_with fail);refine(HCH.out w3 H3.out.be).mono ?_;rintro e w4 ⟨rfl,hb⟩;have H4:=hid (H3.out.below hb);clear hb H3 t0 t1 tl HCH;by_cases hck:CK=0
   ·subst hck;obtain⟨hl60,hp12⟩:=HCK.out (by first|exact rfl|trivial);rw[<-HLL.out]at hl60;have HP12:=hid hp12;clear hp12 HCK;(go_upto_region 5 with fail);have HB0:=hid (show BackR w w4 #[.slice A3 dl cap3,.slice A2 nl cap2] #[.string fid,.slice FCA fcn fccap,.string fcur,.int .i64 fun_,.slice FPA fpn fpcap] (.slice none 0 0) ((l.drop ll).reverse.map turnP) [] from by rw[HLL.out,List.drop_length];exact⟨H4.out,World.ownsRow_nil _ _ _ _,trivial⟩);clear H4;go_wp2;go_loopw[16,17] (λbv iv wr=>∃(k:Nat)(csl:List (List Value)),k≤ll∧iv= .int .i64 ((k:Int)-1)∧BackR w wr #[.slice A3 dl cap3,.slice A2 nl cap2] #[.string fid,.slice FCA fcn fccap,.string fcur,.int .i64 fun_,.slice FPA fpn fpcap] bv ((l.drop k).reverse.map turnP) csl) (λ_ iv _=>(intOf iv+1).toNat);case atStart=>exact⟨ll,[],Nat.le_refl _,rfl,HB0.out⟩
    case round=>
     obtain⟨k,csl,hk,hiv,hbk⟩:=hrel;obtain⟨BA,bcap,hv,-,-,-⟩:=Row.of_own hbk.own (by decide);(have hnl:((l.drop k).reverse.map turnP).length =ll-k:=by rw[List.length_map,List.length_reverse,List.length_drop,HLL.out]);rw[hnl]at hv;subst hv;have HBK:=hid hbk;clear hbk HB0
     cases k with
     |succ i=>
      obtain rfl:_=Value.int .i64 (i:Int):=hiv.trans (by congr 1;omega);(have hil:i<l.length:=by rw[<-HLL.out];omega);obtain⟨pb,poff,CA,ccap,PA,pcap,hA,hints,hcomp,hfit,hcells⟩:=HPA.out i hil;subst hA;have HPS:=hid hcomp
      have HPR:=hid (show ∀U v5,Comps (λb=>b<U.heap.size∧(Value.slice BA (ll-(i+1)) bcap).ownBlock ≠some b) U v5 l[i].parts.reverse ->Below w.heap.size w U->ProdR (λb=>b<U.heap.size∧(Value.slice BA (ll-(i+1)) bcap).ownBlock ≠some b) U [.string l[i].id,.slice CA l[i].cas.length ccap,.string l[i].cur,.int .i64 l[i].units,v5] (turnP l[i]) from λU v5 hc hU=>
       ⟨_,_,rfl,(hints.keep (Keeps.of_below hU)).mono (λb hb=>⟨Nat.lt_of_lt_of_le (HZ.out b hb) hU.size,λe=>by
        have h1:=(HBK.out.own.lt b e).1;have h2:=HZ.out b hb
        omega⟩),hc,hfit⟩)
      have HCELL:=hid hcells;have hpn:l[i].parts.length ≤12:=HP12.out _ (List.getElem_mem hil);have HDR:=hid (drop_turn hil);clear hints hcomp hfit hcells hnl;generalize l[i]=p at*;clear hil;obtain⟨pid,pcas,pcur,pun,pparts⟩:=p;dsimp only at*;obtain⟨c0,c1,c2,c3,c4⟩:=HCELL.out wr HBK.out.fr.be;have cl:=lt_of_cell c0;(have hi1:((i:Nat):Int)<(ll:Int):=by omega);(have hi0:(0:Int)≤((i:Nat):Int):=by omega);have hN:=Blk.new wr 53 #[.string pid,.slice CA pcas.length ccap,.string pcur,.int .i64 pun,.slice PA pparts.length pcap];have hBw:=below1 wr (.cells #[.string pid,.slice CA pcas.length ccap,.string pcur,.int .i64 pun,.slice PA pparts.length pcap] 53);clear hiv hN hBw;go_upto_region 10 with fail
      have HI0:=hid (show InnR wr (wr.alloc (.cells #[.string pid,.slice CA pcas.length ccap,.string pcur,.int .i64 pun,.slice none 0 0] 53)) pid CA pcas.length ccap pcur pun (.slice none 0 0) (pparts.drop pparts.length).reverse from by
       rw[List.drop_length]
       exact⟨Blk.new wr _ _,World.ownsRow_nil _ _ _ _,below1 wr _⟩)
      clear c0 c1 c2 c3 c4;generalize wr.alloc (.cells #[.string pid,.slice CA pcas.length ccap,.string pcur,.int .i64 pun,.slice none 0 0] 53)=w5 at*;obtain⟨-,-,-,-,c4⟩:=HCELL.out w5 (HBEL_trans HBK.out.fr.be HI0.out.be);have cl5:=lt_of_cell c4;clear cl;go_wp2;clear c4 cl5;have HI1:=hid hi1;have HI2:=hid hi0;go_loopw[19] (λqv ws=>∃(q:Nat)(pv:Value),q≤pparts.length∧qv= .int .i64 ((q:Int)-1)∧InnR wr ws pid CA pcas.length ccap pcur pun pv (pparts.drop q).reverse) (λqv _=>(intOf qv+1).toNat);case atStart=>exact⟨pparts.length,_,Nat.le_refl _,rfl,HI0.out⟩
      case round=>
       obtain⟨q,pv,hq,hqv,hin⟩:=hrel;obtain⟨KA,kcap,hv,-,-,-⟩:=Row.of_own hin.own (by decide);(have hnq:((pparts.drop q).reverse).length =pparts.length-q:=by rw[List.length_reverse,List.length_drop]);rw[hnq]at hv;subst hv;have HIN:=hid hin;(rename World=>ws);clear hin HI0
       cases q with
       |succ q=>
        obtain rfl:_=Value.int .i64 (q:Int):=hqv.trans (by congr 1;omega);clear hqv;have hql:q<pparts.length:=hq;obtain⟨PA',pcap',e',hpl',hps⟩:=HPS.out.form;injection e' with e1 e2 e3;subst e1 e3;obtain⟨cb,coff,ccs,hPA,hzc,hcc,hce⟩:=hps.at_ hql;subst hPA hce;obtain⟨d0,d1⟩:=comp_cells (cells_below (HBEL_trans HBK.out.fr.be HIN.out.be) (HZ.out cb hzc) hcc);have dl0:=lt_of_cell d0;have p4:ws.cell? ⟨wr.heap.size,4,none⟩=some (.slice KA (pparts.length-(q+1)) kcap):=HIN.out.pb.at4;have pl:=HIN.out.pb.lt;obtain⟨-,-,-,-,c4⟩:=HCELL.out ws (HBEL_trans HBK.out.fr.be HIN.out.be);have cl5:=lt_of_cell c4;have HNE:=hid (show(Value.slice KA (pparts.length-(q+1)) kcap).ownBlock ≠some wr.heap.size from λe=>by have:=(HIN.out.own.lt _ e).1;omega);have HOW:=hid (show ws.drew.ownsRow (wr.heap.size+1) 55 2 (.slice KA (pparts.length-(q+1)) kcap) (pparts.length-(q+1)) ((pparts.drop (q+1)).reverse.flatMap CompD.cells) from by have h:=HIN.out.own;rw[hnq]at h;exact h)
        have HNX:=hid (show ∀(w6:World)(v6:Value)(o:Obj),(ws.alloc o).drew.grownBy w6 (Value.slice KA (pparts.length-(q+1)) kcap).ownBlock ->w6.ownsRow (wr.heap.size+1) 55 2 v6 (pparts.length-(q+1)+1) ((pparts.drop (q+1)).reverse.flatMap CompD.cells++[.string pparts[q].prod,.int .i64 pparts[q].cnt])->
          (v6.ownBlock=(Value.slice KA (pparts.length-(q+1)) kcap).ownBlock ∨v6.ownBlock=some (ws.alloc o).drew.heap.size)->InnR wr (w6.setCell ⟨wr.heap.size,4,none⟩ v6) pid CA pcas.length ccap pcur pun v6 (pparts.drop q).reverse from λw6 v6 o hg ho hat=>by
         rw[drop_comp hql]
         exact HIN.out.push hg (by rw[hnq];exact ho) hat)
        have MKX:=hid (show ∀(w6:World)(o:Obj),(ws.alloc o).drew.grownBy w6 (Value.slice KA (pparts.length-(q+1)) kcap).ownBlock ->Blk w6 wr.heap.size 53 #[.string pid,.slice CA pcas.length ccap,.string pcur,.int .i64 pun,.slice KA (pparts.length-(q+1)) kcap] from λw6 o hg=>(HIN.out.pb.alloc o).drew.grown hg HNE.out);(have hj1:((q:Nat):Int)<(pparts.length:Int):=by omega);(have hj0:(0:Int)≤((q:Nat):Int):=by omega);have hi1:=HI1.out;have hi0:=HI2.out;have HSZ:=hid HIN.out.be.size;clear hcc hps hnq HIN HPR HDR HBK HCELL HPS hzc;generalize pparts[q]=cc at*;clear hql;obtain⟨cp,cn⟩:=cc;dsimp only at*;go_wp2;go_region_law(refine step_append1 rfl (.tmp 77) (.tmp 86) _ rfl Tryz.underlying51 Tryz.eComp rfl (HOW.out.alloc _) rfl (news:=[.string cp,.int .i64 cn]) rfl (blkc (cs:=[.string cp,.int .i64 cn]) (t:=55) (g:=ws.heap.size) (by have:=Blk.new ws 55 #[.string cp,.int .i64 cn];exact this.drew)) (by simp[Value.oneCell']) (by unfold maxLen;omega) (by omega) (by have:=HSZ.out;show wr.heap.size+1≤(ws.alloc _).heap.size;simp;omega) ?_;intro v6 w6 hown6 hg6 hat6;obtain⟨g6,cap6,hv6⟩:=own_form hown6;subst hv6;have hM6:=MKX.out _ _ hg6;have m4:=hM6.at4;have m5:=hM6.frozen 4;have m6:=hM6.lt)
        all_goals
         have HN:=hid (HNX.out _ _ _ hg6 hown6 hat6);clear hown6 hg6 hat6;(go_wp2_with fail);go_roundw;(case rel=>exact⟨q,_,by omega,by go_num,HN.out⟩);case measure=>first|(simp[intOf];done)|(simp[intOf];omega)
       |zero=>
        obtain rfl:_=Value.int .i64 (-1):=hqv;have e0:pparts.length-0=pparts.length:=Nat.sub_zero _;rw[e0]at HIN;have p0:=HIN.out.pb.at0;have p1:=HIN.out.pb.at1;have p2:=HIN.out.pb.at2;have p3:=HIN.out.pb.at3;have p4:=HIN.out.pb.at4;have pl:=HIN.out.pb.lt;have HOWB:=hid (show ws.ownsRow (w.heap.size+1+1) 53 5 (.slice BA (ll-(i+1)) bcap) (ll-(i+1)) csl.flatten from by have h:=own_keep (Z:=λ_=>True) HBK.out.own (Keeps.of_below HIN.out.be) (λ_ _=>trivial);rw[List.length_map,List.length_reverse,List.length_drop,<-HLL.out]at h;exact h);have HSZ:=hid (show w.heap.size+1+1≤ws.heap.size from by have h1:=HBK.out.fr.f.lt;have h2:=HIN.out.be.size;omega)
        have HCP:=hid (show Comps (λb=>b<ws.heap.size∧(Value.slice BA (ll-(i+1)) bcap).ownBlock ≠some b) ws (.slice KA pparts.length kcap) pparts.reverse from by
         have ho:=HIN.out.own;rw[List.drop_zero]at ho
         exact comps_own ho (λc hc=>HPS.out.fit c (List.mem_reverse.1 hc)) (by rw[List.length_reverse];omega) (λb hb=>⟨(HIN.out.own.lt b hb).2,λe=>by have h1:=(HIN.out.own.lt b hb).1;have h2:=(HBK.out.own.lt b e).2;omega⟩))
        have HPQ:=hid (HPR.out ws _ HCP.out (HBEL_trans HBK.out.fr.be HIN.out.be))
        have HPU:=hid (show ∀(w6:World)(v6:Value)(o:Obj),(ws.alloc o).grownBy w6 (Value.slice BA (ll-(i+1)) bcap).ownBlock ->w6.ownsRow (w.heap.size+1+1) 53 5 v6 (ll-(i+1)+1) (csl.flatten++[.string pid,.slice CA pcas.length ccap,.string pcur,.int .i64 pun,.slice KA pparts.length kcap])->
          (v6.ownBlock=(Value.slice BA (ll-(i+1)) bcap).ownBlock ∨v6.ownBlock=some (ws.alloc o).heap.size)->∃csl',BackR w w6 #[.slice A3 dl cap3,.slice A2 nl cap2] #[.string fid,.slice FCA fcn fccap,.string fcur,.int .i64 fun_,.slice FPA fpn fpcap] v6 ((l.drop i).reverse.map turnP) csl' from λw6 v6 o hg ho hat=>by
         rw[HDR.out]
         exact⟨_,HBK.out.push HIN.out.be hg (by rw[List.length_map,List.length_reverse,List.length_drop,<-HLL.out];exact ho) hat HPQ.out⟩)
        clear HIN HBK HPQ HCP HPR HDR HCELL HPS e0 hnq;go_wp2_with(at_builtin;refine wpList_append1 rfl (.tmp 89) (.tmp 91) _ rfl Tryz.underlying28 Tryz.eProd rfl (HOWB.out.alloc _) rfl (news:=[.string pid,.slice CA pcas.length ccap,.string pcur,.int .i64 pun,.slice KA pparts.length kcap]) rfl (blkc (cs:=[.string pid,.slice CA pcas.length ccap,.string pcur,.int .i64 pun,.slice KA pparts.length kcap]) (t:=53) (g:=ws.heap.size) (Blk.new ws _ _)) (by simp[Value.oneCell']) (by unfold maxLen;omega) (by omega) (by have:=HSZ.out;simp;omega) ?_;intro v6 w6 hown6 hg6 hat6;obtain⟨g6,cap6,hv6⟩:=own_form hown6;subst hv6);obtain⟨csl',hpu⟩:=HPU.out _ _ _ hg6 hown6 hat6;have HN:=hid hpu;clear hpu hown6 hg6 hat6 p0 p1 p2 p3 p4 pl;go_wp2;go_roundw;(case rel=>exact⟨i,csl',by omega,by go_num,HN.out⟩);case measure=>first|(simp[intOf];done)|(simp[intOf];omega)
     |zero=>
      obtain rfl:_=Value.int .i64 (-1):=hiv;have e0:ll-0=ll:=Nat.sub_zero _;rw[e0]at HBK;rw[e0];(have hbk:BackR w wr #[.slice A3 dl cap3,.slice A2 nl cap2] #[.string fid,.slice FCA fcn fccap,.string fcur,.int .i64 fun_,.slice FPA fpn fpcap] (.slice BA ll bcap) (turnL l) csl:=by have h:=HBK.out;rw[turn_zero]at h;exact h);(have hlen:(turnL l).length =ll:=by unfold turnL;rw[List.length_reverse,List.length_map,HLL.out]);(have hE:EachR (ProdR (λb=>b<wr.heap.size) wr) 5 (turnL l) csl:=hbk.each.imp λcs p hp=>hp.mono λb hb=>hb.1);have HPB:=hid (show Prods (λb=>b<wr.heap.size) wr (.slice BA ll bcap) (turnL l) from by have h:=prods_own hbk.own hE (by rw[hlen];omega) (λb hb=>(hbk.own.lt b hb).2);exact h)
      have hrow:Row (λb=>w.heap.size+1+1≤b) wr BA csl.flatten:=by
       obtain⟨BA',bcap',e',-,-,hr⟩:=Row.of_own hbk.own (by decide);injection e' with e1 e2 e3;rw[e1];exact hr
      have HROW:=hid hrow;have HCLEN:=hid (show csl.flatten.length=ll*5 from by rw[hE.size,hlen]);have HONE:=hid (each_one hE);have HFR:=hid hbk.fr;have HFP2:=hid (show ProdR (λb=>b<wr.heap.size) wr [.string fid,.slice FCA fcn fccap,.string fcur,.int .i64 fun_,.slice FPA fpn fpcap] fp from(HFP.out.keep (Keeps.of_below HFR.out.be)).mono λb hb=>Nat.lt_of_lt_of_le (HZ.out b hb) HFR.out.be.size);have HCONS:=hid (show ∀W B n cap',Below wr.heap.size wr W->W.ownsRow n 53 5 (.slice B (1+ll) cap') (1+ll) ([.string fid,.slice FCA fcn fccap,.string fcur,.int .i64 fun_,.slice FPA fpn fpcap]++csl.flatten)->Prods (λb=>b<W.heap.size) W (.slice B (1+ll) cap') (fp::turnL l) from λW B n cap' hb ho=>cons_prods hb hE HFP2.out (by rw[hlen];exact ho) (by rw[hlen];exact hl60))
      have HARG:=hid (show ∀W vb bl,Below w.heap.size w W->Prods (λb=>b<W.heap.size) W vb bl->ArgP (λb=>b<W.heap.size) W (.slice A3 dl cap3) (.slice A2 nl cap2) vb (.slice A4 rl cap4) t bl r base id from λW vb bl hW hP=>
       have h:=HA.out.on hW
       ⟨h.tar.mono h.live,hP,⟨h.ra.1.elim λa ha=>ha.elim λc hc=>⟨a,c,hc.1,hc.2.1,hc.2.2.1,hc.2.2.2.1,hc.2.2.2.2.imp (λ_ _ h=>h) (Keeps.refl _ _) h.live⟩,h.ra.2⟩,λ_ h=>h,h.bs,h.is,h.tab⟩)
      have HC2:=hid (λW vb(hW:Below w.heap.size w W)(hP:Prods (λb=>b<W.heap.size) W vb (fp::turnL l))=>pcheck_any (λb=>b<W.heap.size) _ _ vb t (fp::turnL l) W (HARG.out W vb _ hW hP).tar hP (λ_ h=>h) HFI.out (HARG.out W vb _ hW hP).tab);have HFF:=hid (HFN.out fid);have HPL:=hid (@turned_plain t l r base id day HCKE.out.symm);have HMO:=hid (@turned_more t l r base id day fp HCKE.out.symm);clear hbk hlen hE hrow e0 HBK HFP HFN HPA;rw[<-HFE.out]at HMO;generalize findP l fid=I2 at*;generalize checkP t (fp::turnL l)=C2 at*;(go_upto_region 15 with fail);go_cut[112] from 93 to 111 (λcv wx=>SawB (C2=0∧I2<0∧id≠fid) cv∧Below wr.heap.size wr wx)
      case first=>
       have HC:=hid (λ(W:World)(hW:Below wr.heap.size wr W)=>(show W.cell? ⟨w.heap.size,0,none⟩=some (.slice A3 dl cap3)∧W.cell? ⟨w.heap.size,1,none⟩=some (.slice A2 nl cap2)∧W.cell? ⟨w.heap.size+1,0,none⟩=some (.string fid)∧W.cell? ⟨w.heap.size+1,1,none⟩=some (.slice FCA fcn fccap)∧W.cell? ⟨w.heap.size+1,2,none⟩=some (.string fcur)∧W.cell? ⟨w.heap.size+1,3,none⟩=some (.int .i64 fun_)∧W.cell? ⟨w.heap.size+1,4,none⟩=some (.slice FPA fpn fpcap) from by
        have h1:=HFR.out.below hW
        exact⟨h1.t.at0,h1.t.at1,h1.f.at0,h1.f.at1,h1.f.at2,h1.f.at3,h1.f.at4⟩))
       refine wp_region_S 19 (λW=>Below wr.heap.size wr W) (by kernel_rfl) ?_;have hB0:Below wr.heap.size wr wr.drew:=(Below.refl _ _).drew;have hS:(λW=>Below wr.heap.size wr W) wr.drew:=hB0;generalize wr.drew=x0 at*
       (refine tkC 0 [5,6,7,13,14,19] ?_ hS ?_ ?_;rotate_left;intro w hkw;obtain⟨t0,t1,f0,f1,f2,f3,f4⟩:=HC.out _ hkw;clear hkw;go_simp;(try with_reducible rfl);simp only[nr])
       (refine tkC 1 [2,4,5,6,7,13,14,19] ?_ hS ?_ ?_;rotate_left;intro w hkw;obtain⟨t0,t1,f0,f1,f2,f3,f4⟩:=HC.out _ hkw;clear hkw;go_simp;(try with_reducible rfl);simp only[nr])
       (refine tkZ 3 ?_ hS ?_ ?_;rotate_left;intro w;go_simp;(try with_reducible rfl);simp only[nr])
       clear hS;refine wS1 2 (λK hK=> ?_);(go_wp2_with fail);refine hK _ _ (Or.inr (hB0.alloc hB0.size _)) ?_;clear hK K
       (try simp only[nr])
       have hB1:Below wr.heap.size wr (x0.alloc (.cells #[.string fid,.slice FCA fcn fccap,.string fcur,.int .i64 fun_,.slice FPA fpn fpcap] 53)):=hB0.alloc hB0.size _;have hOW:(x0.alloc (.cells #[.string fid,.slice FCA fcn fccap,.string fcur,.int .i64 fun_,.slice FPA fpn fpcap] 53)).ownsRow x0.heap.size 53 5 (.slice (some ⟨x0.heap.size,0,none⟩) 1 1) 1 [.string fid,.slice FCA fcn fccap,.string fcur,.int .i64 fun_,.slice FPA fpn fpcap]:=own_full (Blk.new x0 _ _) (Nat.le_refl _) (by decide) rfl;(have hsx:x0.heap.size≤(x0.alloc (.cells #[.string fid,.slice FCA fcn fccap,.string fcur,.int .i64 fun_,.slice FPA fpn fpcap] 53)).heap.size :=by simp);have hlo:wr.heap.size≤x0.heap.size:=hB0.size;refine wS1 4 (λK hK=> ?_);refine oper_appendR (.tmp 95) (.tmp 96) _ rfl Tryz.underlying28 Tryz.eProd rfl hOW rfl HCLEN.out (Row.keep HROW.out (Keeps.of_below hB1)) HONE.out (by unfold maxLen;omega) (by omega) hsx ?_;intro v7 w7 hown7 hg7 hat7;have hB7:Below wr.heap.size wr w7:=below_own hB1 hOW hg7 hB1.size hlo;refine hK _ _ (Or.inr hB7) ?_;clear hK K hB1 hB0;simp only[List.getElem_toArray,List.getElem_cons_zero,List.getElem_cons_succ,nr];have hown8:=hown7;rw[Nat.add_comm]at hown8;obtain⟨g7,cap7,hv7⟩:=own_form hown8;rw[Nat.add_comm]at hv7;subst hv7;have HP7:=HCONS.out w7 _ _ _ hB7 hown7;have HK7:=hid (HC2.out w7 _ (HBEL_trans HFR.out.be hB7) HP7);clear hown7 hown8 hg7 hat7 hOW hsx hlo HP7;refine wS1 5 (λK hK=> ?_);(go_wp2_with fail);refine HK7.out.mono ?_;rintro e x8 ⟨rfl,hb⟩;have hB8:Below wr.heap.size wr x8:=hB7.trans (hb.mono hB7.size);refine hK _ _ (Or.inr hB8) ?_;clear hK K hb hB7 HK7
       (try simp only[nr])
       have hS:(λW=>Below wr.heap.size wr W) x8:=hB8;by_cases hc2:C2=0
       ·subst hc2
        (refine tkZ 6 ?_ hS ?_ ?_;rotate_left;intro w;go_simp;(try with_reducible rfl);simp only[nr])
        (refine tkZ 7 ?_ hS ?_ ?_;rotate_left;intro w;go_simp;(try with_reducible rfl);simp only[nr])
        (refine tkZ 8 ?_ hS ?_ ?_;rotate_left;intro w;go_simp;(try with_reducible rfl);simp only[nr])
        (refine tkZ 9 ?_ hS ?_ ?_;rotate_left;intro w;go_simp;(try with_reducible rfl);simp only[nr])
        (refine tkC 10 [11,12,13,14,19] ?_ hS ?_ ?_;rotate_left;intro w hkw;obtain⟨t0,t1,f0,f1,f2,f3,f4⟩:=HC.out _ hkw;clear hkw;go_simp;(try with_reducible rfl);simp only[nr])
        clear hS;refine wSG 11 (λK hK=> ?_);(go_wp2_with fail);refine(HFF.out _ (HBEL_trans HFR.out.be hB8)).mono ?_;rintro e x9 ⟨rfl,hw⟩;subst hw;refine hK _ _ (Or.inr hB8) ?_;clear hK K
        (try simp only[nr])
        have hS:(λW=>Below wr.heap.size wr W) x8:=hB8;by_cases hi2:I2<0
        ·have hdi:decide (I2<0)=true:=decide_eq_true hi2;refine tkZ 12 (.bool true) hS (λW=> ?_) ?_
         ·go_simp;try exact hi2
         (try simp only[nr])
         (refine tkZ 13 ?_ hS ?_ ?_;rotate_left;intro w;go_simp;(try with_reducible rfl);simp only[nr])
         (refine tkZ 14 ?_ hS ?_ ?_;rotate_left;intro w;go_simp;(try with_reducible rfl);simp only[nr])
         (refine tkZ 15 ?_ hS ?_ ?_;rotate_left;intro w;go_simp;(try with_reducible rfl);simp only[nr])
         (refine tkZ 16 ?_ hS ?_ ?_;rotate_left;intro w;go_simp;(try with_reducible rfl);simp only[nr])
         (refine tkC 17 [18,19] ?_ hS ?_ ?_;rotate_left;intro w hkw;obtain⟨t0,t1,f0,f1,f2,f3,f4⟩:=HC.out _ hkw;clear hkw;go_simp;(try with_reducible rfl);simp only[nr])
         by_cases hne:id=fid
         ·subst hne
          (refine tkZ 18 ?_ hS ?_ ?_;rotate_left;intro w;go_simp;(try with_reducible rfl);simp only[nr])
          clear hS;refine wS1 19 (λK hK=> ?_);(go_wp2_with fail);refine hK _ _ (Or.inl rfl) ?_;clear hK K
          (try simp only[nr])
          refine wSd ?_ _;(go_wp2_with fail);go_meet;exact⟨⟨_,rfl,by simp⟩,hB8⟩
         ·have HNE:=hid hne
          (refine tkZ 18 ?_ hS ?_ ?_;rotate_left;intro w;go_simp;(try with_reducible rfl);simp only[nr])
          clear hS;refine wS1 19 (λK hK=> ?_);(go_wp2_with fail);refine hK _ _ (Or.inl rfl) ?_;clear hK K
          (try simp only[nr])
          refine wSd ?_ _;(go_wp2_with fail);go_meet;exact⟨⟨_,rfl,λ_=>by first|exact⟨rfl,hi2,HNE.out⟩|exact⟨trivial,hi2,HNE.out⟩⟩,hB8⟩
        ·have hdi:decide (I2<0)=false:=decide_eq_false hi2;refine tkZ 12 (.bool false) hS (λW=> ?_) ?_
         ·go_simp;try first|exact hi2|omega
         (try simp only[nr])
         (refine tkZ 13 ?_ hS ?_ ?_;rotate_left;intro w;go_simp;(try with_reducible rfl);simp only[nr])
         (refine tkZ 14 ?_ hS ?_ ?_;rotate_left;intro w;go_simp;(try with_reducible rfl);simp only[nr])
         refine tkN 15 hS ?_;refine tkN 16 hS ?_;refine tkN 17 hS ?_;refine tkN 18 hS ?_
         (try simp only[nr])
         clear hS;refine wS1 19 (λK hK=> ?_);(go_wp2_with fail);refine hK _ _ (Or.inl rfl) ?_;clear hK K
         (try simp only[nr])
         refine wSd ?_ _;(go_wp2_with fail);go_meet;exact⟨⟨_,rfl,by simp⟩,hB8⟩
       ·(have hcb:(C2==0)=false:=by simpa using hc2);refine tkZ 6 (.bool false) hS (λW=> ?_) ?_
        ·go_simp;try first|exact hc2|exact hcb
        (try simp only[nr])
        (refine tkZ 7 ?_ hS ?_ ?_;rotate_left;intro w;go_simp;(try with_reducible rfl);simp only[nr])
        refine tkN 8 hS ?_;refine tkN 9 hS ?_;refine tkN 10 hS ?_;refine tkN 11 hS ?_;refine tkN 12 hS ?_
        (try simp only[nr])
        (refine tkZ 13 ?_ hS ?_ ?_;rotate_left;intro w;go_simp;(try with_reducible rfl);simp only[nr])
        (refine tkZ 14 ?_ hS ?_ ?_;rotate_left;intro w;go_simp;(try with_reducible rfl);simp only[nr])
        refine tkN 15 hS ?_;refine tkN 16 hS ?_;refine tkN 17 hS ?_;refine tkN 18 hS ?_
        (try simp only[nr])
        clear hS;refine wS1 19 (λK hK=> ?_);(go_wp2_with fail);refine hK _ _ (Or.inl rfl) ?_;clear hK K
        (try simp only[nr])
        refine wSd ?_ _;(go_wp2_with fail);go_meet;exact⟨⟨_,rfl,by simp⟩,hB8⟩
      case rest=>
       obtain⟨hsw,hb⟩:=hcut;(rename World=>w9);obtain⟨sb,rfl,hsb⟩:=hsw;have HFR9:=hid (HFR.out.below hb);cases sb
       ·have HB9:=hid (show Prods (λb=>b<w9.heap.size) w9 (.slice BA ll bcap) (turnL l) from(HPB.out.keep (Keeps.of_below hb)).mono λb h=>Nat.lt_of_lt_of_le h hb.size);have HT:=HPL;have HFRX:=HFR9;clear HPB HFR HFR9 hb hsb HPL HMO HCONS HC2 HFF HROW HCLEN HONE HFP2;generalize turnL l=bl at*;(rename World=>wf);have HA1:=hid (HA.out.on HFRX.out.be);have HA2:=hid (HARG.out wf _ bl HFRX.out.be HB9.out);have HT2:=hid (show _->_->_->_->_ from HT.out);have HV1:=hid (λW(hW:Below wf.heap.size wf W)=>value_any Z _ _ _ _ t l r base id day W (HA1.out.on hW).tar (HA1.out.on hW).pr (HA1.out.on hW).ra (HA1.out.on hW).live HFI.out (HA1.out.on hW).bs (HA1.out.on hW).tab);have HV2:=hid (λW(hW:Below wf.heap.size wf W)=>value_any (λb=>b<wf.heap.size) _ _ _ _ t bl r base id day W (HA2.out.on hW).tar (HA2.out.on hW).pr (HA2.out.on hW).ra (HA2.out.on hW).live HFI.out (HA2.out.on hW).bs (HA2.out.on hW).tab);have HC1:=hid (λW(hW:Below wf.heap.size wf W)=>controlled_any Z _ _ _ _ t l r base id day W (HA1.out.on hW).tar (HA1.out.on hW).pr (HA1.out.on hW).ra (HA1.out.on hW).live HFI.out (HA1.out.on hW).bs (HA1.out.on hW).tab);have HC2:=hid (λW(hW:Below wf.heap.size wf W)=>controlled_any (λb=>b<wf.heap.size) _ _ _ _ t bl r base id day W (HA2.out.on hW).tar (HA2.out.on hW).pr (HA2.out.on hW).ra (HA2.out.on hW).live HFI.out (HA2.out.on hW).bs (HA2.out.on hW).tab);have HS1:=hid (λW(hW:Below wf.heap.size wf W)=>share_any Z _ _ _ _ t l r base id day W (HA1.out.on hW).tar (HA1.out.on hW).pr (HA1.out.on hW).ra (HA1.out.on hW).live HFI.out (HA1.out.on hW).bs (HA1.out.on hW).tab);have HS2:=hid (λW(hW:Below wf.heap.size wf W)=>share_any (λb=>b<wf.heap.size) _ _ _ _ t bl r base id day W (HA2.out.on hW).tar (HA2.out.on hW).pr (HA2.out.on hW).ra (HA2.out.on hW).live HFI.out (HA2.out.on hW).bs (HA2.out.on hW).tab);clear HA HARG HA1 HA2 HB9 HT HLL HZ HFID HFE HTB HCKE HP12;generalize valueP t l r base id day=V1 at*;generalize valueP t bl r base id day=V2 at*;generalize controlP t l r base id day=C1 at*;generalize controlP t bl r base id day=C2 at*;generalize shareP t l r base id day=S1 at*;generalize shareP t bl r base id day=S2 at*;have HB0':=hid (Below.refl wf.heap.size wf);have HX:=HFRX;clear HFRX;have t0:=HX.out.t.at0;have t1:=HX.out.t.at1;have tl:=HX.out.t.lt;(go_wp2_with fail);refine(HV1.out wf HB0'.out).mono ?_;obtain⟨a0,b0,c0,hV⟩:=rtE_tri V1;rw[hV];rintro e u0 ⟨rfl,hb⟩;have HE0:=hid hV;have hb':=hb.alloc hb.size (.cells #[.bool a0,.string b0,.string c0] 37);replace HX:=hid (HX.out.below hb');have HB1':=hid (HBEL_trans HB0'.out hb');have HBX0:=hid (Blk.new u0 37 #[.bool a0,.string b0,.string c0]);clear hb hb' t0 t1 tl hV HV1 HB0';(go_upto_region 18 with fail);generalize u0.alloc (.cells #[.bool a0,.string b0,.string c0] 37)=w0' at*;generalize u0.heap.size=x0 at*;have t0:=HX.out.t.at0;have t1:=HX.out.t.at1;have tl:=HX.out.t.lt;(go_wp2_with fail);refine(HV2.out w0' HB1'.out).mono ?_;obtain⟨a1,b1,c1,hV⟩:=rtE_tri V2;rw[hV];rintro e u1 ⟨rfl,hb⟩;have HE1:=hid hV;have hb':=hb.alloc hb.size (.cells #[.bool a1,.string b1,.string c1] 37);replace HX:=hid (HX.out.below hb');have HB2':=hid (HBEL_trans HB1'.out hb');have HBX1:=hid (Blk.new u1 37 #[.bool a1,.string b1,.string c1]);replace HBX0:=hid (HBX0.out.below hb' HBX0.out.lt);clear hb hb' t0 t1 tl hV HV2 HB1';(go_upto_region 19 with fail);generalize u1.alloc (.cells #[.bool a1,.string b1,.string c1] 37)=w1' at*;generalize u1.heap.size=x1 at*;have t0:=HX.out.t.at0;have t1:=HX.out.t.at1;have tl:=HX.out.t.lt;(go_wp2_with fail);refine(HC1.out w1' HB2'.out).mono ?_;obtain⟨a2,b2,c2,hV⟩:=rtE_tri C1;rw[hV];rintro e u2 ⟨rfl,hb⟩;have HE2:=hid hV;have hb':=hb.alloc hb.size (.cells #[.bool a2,.string b2,.string c2] 37);replace HX:=hid (HX.out.below hb');have HB3':=hid (HBEL_trans HB2'.out hb');have HBX2:=hid (Blk.new u2 37 #[.bool a2,.string b2,.string c2]);replace HBX0:=hid (HBX0.out.below hb' HBX0.out.lt);replace HBX1:=hid (HBX1.out.below hb' HBX1.out.lt);clear hb hb' t0 t1 tl hV HC1 HB2';(go_upto_region 20 with fail);generalize u2.alloc (.cells #[.bool a2,.string b2,.string c2] 37)=w2' at*;generalize u2.heap.size=x2 at*;have t0:=HX.out.t.at0;have t1:=HX.out.t.at1;have tl:=HX.out.t.lt;(go_wp2_with fail);refine(HC2.out w2' HB3'.out).mono ?_;obtain⟨a3,b3,c3,hV⟩:=rtE_tri C2;rw[hV];rintro e u3 ⟨rfl,hb⟩;have HE3:=hid hV;have hb':=hb.alloc hb.size (.cells #[.bool a3,.string b3,.string c3] 37);replace HX:=hid (HX.out.below hb');have HB4':=hid (HBEL_trans HB3'.out hb');have HBX3:=hid (Blk.new u3 37 #[.bool a3,.string b3,.string c3]);replace HBX0:=hid (HBX0.out.below hb' HBX0.out.lt);replace HBX1:=hid (HBX1.out.below hb' HBX1.out.lt);replace HBX2:=hid (HBX2.out.below hb' HBX2.out.lt);clear hb hb' t0 t1 tl hV HC2 HB3';(go_upto_region 21 with fail);generalize u3.alloc (.cells #[.bool a3,.string b3,.string c3] 37)=w3' at*;generalize u3.heap.size=x3 at*;have t0:=HX.out.t.at0;have t1:=HX.out.t.at1;have tl:=HX.out.t.lt;(go_wp2_with fail);refine(HS1.out w3' HB4'.out).mono ?_;rintro e s0' ⟨rfl,hb⟩;replace HX:=hid (HX.out.below hb);have HBS0:=hid (HBEL_trans HB4'.out hb);replace HBX0:=hid (HBX0.out.below hb HBX0.out.lt);replace HBX1:=hid (HBX1.out.below hb HBX1.out.lt);replace HBX2:=hid (HBX2.out.below hb HBX2.out.lt);replace HBX3:=hid (HBX3.out.below hb HBX3.out.lt);clear hb t0 t1 tl HS1 HB4';(go_upto_region 22 with fail);have t0:=HX.out.t.at0;have t1:=HX.out.t.at1;have tl:=HX.out.t.lt;(go_wp2_with fail);refine(HS2.out s0' HBS0.out).mono ?_;rintro e s1' ⟨rfl,hb⟩;replace HX:=hid (HX.out.below hb);have HBS1:=hid (HBEL_trans HBS0.out hb);replace HBX0:=hid (HBX0.out.below hb HBX0.out.lt);replace HBX1:=hid (HBX1.out.below hb HBX1.out.lt);replace HBX2:=hid (HBX2.out.below hb HBX2.out.lt);replace HBX3:=hid (HBX3.out.below hb HBX3.out.lt);clear hb t0 t1 tl HS2 HBS0;(go_upto_region 23 with fail);obtain⟨r1,e1⟩:=V1;obtain⟨r2,e2⟩:=V2;obtain⟨r3,e3⟩:=C1;obtain⟨r4,e4⟩:=C2;obtain⟨n5,e5⟩:=S1;obtain⟨n6,e6⟩:=S2;dsimp only at*;by_cases h1:e1=2
        ·subst h1;(go_wp2_with fail);go_ret;exact⟨rfl,HX.out.be⟩
        (have p1:(e1==2)=false:=by simpa using h1);by_cases h2:e2=2
        ·subst h2;(go_wp2_with fail);go_ret;exact⟨rfl,HX.out.be⟩
        (have p2:(e2==2)=false:=by simpa using h2);by_cases h3:e3=2
        ·subst h3;(go_wp2_with fail);go_ret;exact⟨rfl,HX.out.be⟩
        (have p3:(e3==2)=false:=by simpa using h3);by_cases h4:e4=2
        ·subst h4;(go_wp2_with fail);go_ret;exact⟨rfl,HX.out.be⟩
        (have p4:(e4==2)=false:=by simpa using h4);by_cases h5:e5=2
        ·subst h5;(go_wp2_with fail);go_ret;exact⟨rfl,HX.out.be⟩
        (have p5:(e5==2)=false:=by simpa using h5);by_cases h6:e6=2
        ·subst h6;(go_wp2_with fail);go_ret;exact⟨rfl,HX.out.be⟩
        (have p6:(e6==2)=false:=by simpa using h6);obtain⟨q1,q2,q3⟩:=HT2.out h1 h2 h3 h4;clear h1 h2 h3 h4 h5 h6 HT2;have s1:=q1.same;have s2:=q2.same;rw[HE0.out,HE1.out]at s1;rw[HE2.out,HE3.out]at s2;have g1:e1=e2:=q1.1;have g2:e3=e4:=q2.1;clear HE0 HE1 HE2 HE3 q1 q2;obtain⟨rfl,rfl,rfl⟩:=agg3 s1;obtain⟨rfl,rfl,rfl⟩:=agg3 s2;obtain⟨rfl,rfl⟩:=Prod.mk.inj q3;subst g1 g2;clear s1 s2 q3;have k00:=HBX0.out.at0;have k01:=HBX0.out.at1;have k02:=HBX0.out.at2;have k0l:=HBX0.out.lt;have k10:=HBX1.out.at0;have k11:=HBX1.out.at1;have k12:=HBX1.out.at2;have k1l:=HBX1.out.lt;have k20:=HBX2.out.at0;have k21:=HBX2.out.at1;have k22:=HBX2.out.at2;have k2l:=HBX2.out.lt;have k30:=HBX3.out.at0;have k31:=HBX3.out.at1;have k32:=HBX3.out.at2;have k3l:=HBX3.out.lt;go_wp2_with(first|(refine wpList_eqSame (by kernel_rfl) _ _ rfl a0 b0 c0 rfl rfl ?_)|(refine wpList_eqSame (by kernel_rfl) _ _ rfl a2 b2 c2 rfl rfl ?_));go_ret;exact⟨rfl,HX.out.be⟩
       ·obtain⟨q1,q2,q3⟩:=hsb (by first|exact rfl|trivial);have HT:=hid (HMO.out q1 q2 q3);clear q1 q2 q3 hsb;have f0:=HFR9.out.f.at0;have f1:=HFR9.out.f.at1;have f2:=HFR9.out.f.at2;have f3:=HFR9.out.f.at3;have f4:=HFR9.out.f.at4;have fl:=HFR9.out.f.lt;have hbw:=below1 w9 (.cells #[.string fid,.slice FCA fcn fccap,.string fcur,.int .i64 fun_,.slice FPA fpn fpcap] 53);have HOWF:=hid (show(w9.alloc (.cells #[.string fid,.slice FCA fcn fccap,.string fcur,.int .i64 fun_,.slice FPA fpn fpcap] 53)).ownsRow w9.heap.size 53 5 (.slice (some ⟨w9.heap.size,0,none⟩) 1 1) 1 [.string fid,.slice FCA fcn fccap,.string fcur,.int .i64 fun_,.slice FPA fpn fpcap] from own_full (Blk.new w9 _ _) (Nat.le_refl _) (by decide) rfl);have HRW2:=hid (show Row (λb=>w.heap.size+1+1≤b) (w9.alloc (.cells #[.string fid,.slice FCA fcn fccap,.string fcur,.int .i64 fun_,.slice FPA fpn fpcap] 53)) BA csl.flatten from Row.keep HROW.out (Keeps.of_below (hb.trans (hbw.mono hb.size))));have HBB:=hid hb;have HBW:=hid hbw;clear hb hbw;have HB11:=hid (show w.heap.size+1<w9.heap.size from HFR9.out.f.lt);(go_upto_region 17 with(at_builtin;refine wpList_appendR rfl (.tmp 114) (.tmp 115) _ rfl Tryz.underlying28 Tryz.eProd rfl HOWF.out rfl HCLEN.out HRW2.out HONE.out (by unfold maxLen;omega) (by omega) (by simp) ?_;intro v10 w10 hown10 hg10 hat10));have HB10:=hid (below_own HBW.out HOWF.out hg10 HBW.out.size (Nat.le_refl _));have hown11:=hown10;rw[Nat.add_comm]at hown11;obtain⟨g10,cap10,hv10⟩:=own_form hown11;rw[Nat.add_comm]at hv10;subst hv10;have HB9:=hid (HCONS.out w10 _ _ _ (HBEL_trans HBB.out HB10.out) hown10);have HFRX:=hid (HFR9.out.below HB10.out);clear hown10 hown11 hg10 hat10 HOWF HRW2 HCONS HBB HBW HB10 HFR9 HB11 f0 f1 f2 f3 f4 fl HPB HFR HPL HMO HC2 HFF HROW HCLEN HONE HFP2;obtain⟨bn,hbn⟩:∃n,n=1+ll:=⟨_,rfl⟩;rw[<-hbn]at HB9;rw[<-hbn];clear hbn;generalize fp::turnL l=bl at*;(rename World=>wf);have HA1:=hid (HA.out.on HFRX.out.be);have HA2:=hid (HARG.out wf _ bl HFRX.out.be HB9.out);have HT2:=hid (show _->_->_->_->_ from HT.out);have HV1:=hid (λW(hW:Below wf.heap.size wf W)=>value_any Z _ _ _ _ t l r base id day W (HA1.out.on hW).tar (HA1.out.on hW).pr (HA1.out.on hW).ra (HA1.out.on hW).live HFI.out (HA1.out.on hW).bs (HA1.out.on hW).tab);have HV2:=hid (λW(hW:Below wf.heap.size wf W)=>value_any (λb=>b<wf.heap.size) _ _ _ _ t bl r base id day W (HA2.out.on hW).tar (HA2.out.on hW).pr (HA2.out.on hW).ra (HA2.out.on hW).live HFI.out (HA2.out.on hW).bs (HA2.out.on hW).tab);have HC1:=hid (λW(hW:Below wf.heap.size wf W)=>controlled_any Z _ _ _ _ t l r base id day W (HA1.out.on hW).tar (HA1.out.on hW).pr (HA1.out.on hW).ra (HA1.out.on hW).live HFI.out (HA1.out.on hW).bs (HA1.out.on hW).tab);have HC2:=hid (λW(hW:Below wf.heap.size wf W)=>controlled_any (λb=>b<wf.heap.size) _ _ _ _ t bl r base id day W (HA2.out.on hW).tar (HA2.out.on hW).pr (HA2.out.on hW).ra (HA2.out.on hW).live HFI.out (HA2.out.on hW).bs (HA2.out.on hW).tab);have HS1:=hid (λW(hW:Below wf.heap.size wf W)=>share_any Z _ _ _ _ t l r base id day W (HA1.out.on hW).tar (HA1.out.on hW).pr (HA1.out.on hW).ra (HA1.out.on hW).live HFI.out (HA1.out.on hW).bs (HA1.out.on hW).tab);have HS2:=hid (λW(hW:Below wf.heap.size wf W)=>share_any (λb=>b<wf.heap.size) _ _ _ _ t bl r base id day W (HA2.out.on hW).tar (HA2.out.on hW).pr (HA2.out.on hW).ra (HA2.out.on hW).live HFI.out (HA2.out.on hW).bs (HA2.out.on hW).tab);clear HA HARG HA1 HA2 HB9 HT HLL HZ HFID HFE HTB HCKE HP12;generalize valueP t l r base id day=V1 at*;generalize valueP t bl r base id day=V2 at*;generalize controlP t l r base id day=C1 at*;generalize controlP t bl r base id day=C2 at*;generalize shareP t l r base id day=S1 at*;generalize shareP t bl r base id day=S2 at*;have HB0':=hid (Below.refl wf.heap.size wf);have HX:=HFRX;clear HFRX;have t0:=HX.out.t.at0;have t1:=HX.out.t.at1;have tl:=HX.out.t.lt;(go_wp2_with fail);refine(HV1.out wf HB0'.out).mono ?_;obtain⟨a0,b0,c0,hV⟩:=rtE_tri V1;rw[hV];rintro e u0 ⟨rfl,hb⟩;have HE0:=hid hV;have hb':=hb.alloc hb.size (.cells #[.bool a0,.string b0,.string c0] 37);replace HX:=hid (HX.out.below hb');have HB1':=hid (HBEL_trans HB0'.out hb');have HBX0:=hid (Blk.new u0 37 #[.bool a0,.string b0,.string c0]);clear hb hb' t0 t1 tl hV HV1 HB0';(go_upto_region 18 with fail);generalize u0.alloc (.cells #[.bool a0,.string b0,.string c0] 37)=w0' at*;generalize u0.heap.size=x0 at*;have t0:=HX.out.t.at0;have t1:=HX.out.t.at1;have tl:=HX.out.t.lt;(go_wp2_with fail);refine(HV2.out w0' HB1'.out).mono ?_;obtain⟨a1,b1,c1,hV⟩:=rtE_tri V2;rw[hV];rintro e u1 ⟨rfl,hb⟩;have HE1:=hid hV;have hb':=hb.alloc hb.size (.cells #[.bool a1,.string b1,.string c1] 37);replace HX:=hid (HX.out.below hb');have HB2':=hid (HBEL_trans HB1'.out hb');have HBX1:=hid (Blk.new u1 37 #[.bool a1,.string b1,.string c1]);replace HBX0:=hid (HBX0.out.below hb' HBX0.out.lt);clear hb hb' t0 t1 tl hV HV2 HB1';(go_upto_region 19 with fail);generalize u1.alloc (.cells #[.bool a1,.string b1,.string c1] 37)=w1' at*;generalize u1.heap.size=x1 at*;have t0:=HX.out.t.at0;have t1:=HX.out.t.at1;have tl:=HX.out.t.lt;(go_wp2_with fail);refine(HC1.out w1' HB2'.out).mono ?_;obtain⟨a2,b2,c2,hV⟩:=rtE_tri C1;rw[hV];rintro e u2 ⟨rfl,hb⟩;have HE2:=hid hV;have hb':=hb.alloc hb.size (.cells #[.bool a2,.string b2,.string c2] 37);replace HX:=hid (HX.out.below hb');have HB3':=hid (HBEL_trans HB2'.out hb');have HBX2:=hid (Blk.new u2 37 #[.bool a2,.string b2,.string c2]);replace HBX0:=hid (HBX0.out.below hb' HBX0.out.lt);replace HBX1:=hid (HBX1.out.below hb' HBX1.out.lt);clear hb hb' t0 t1 tl hV HC1 HB2';(go_upto_region 20 with fail);generalize u2.alloc (.cells #[.bool a2,.string b2,.string c2] 37)=w2' at*;generalize u2.heap.size=x2 at*;have t0:=HX.out.t.at0;have t1:=HX.out.t.at1;have tl:=HX.out.t.lt;(go_wp2_with fail);refine(HC2.out w2' HB3'.out).mono ?_;obtain⟨a3,b3,c3,hV⟩:=rtE_tri C2;rw[hV];rintro e u3 ⟨rfl,hb⟩;have HE3:=hid hV
        have hb':=hb.alloc hb.size (.cells #[.bool a3,.string b3,.string c3] 37);replace HX:=hid (HX.out.below hb');have HB4':=hid (HBEL_trans HB3'.out hb');have HBX3:=hid (Blk.new u3 37 #[.bool a3,.string b3,.string c3]);replace HBX0:=hid (HBX0.out.below hb' HBX0.out.lt);replace HBX1:=hid (HBX1.out.below hb' HBX1.out.lt);replace HBX2:=hid (HBX2.out.below hb' HBX2.out.lt);clear hb hb' t0 t1 tl hV HC2 HB3';(go_upto_region 21 with fail);generalize u3.alloc (.cells #[.bool a3,.string b3,.string c3] 37)=w3' at*;generalize u3.heap.size=x3 at*;have t0:=HX.out.t.at0;have t1:=HX.out.t.at1;have tl:=HX.out.t.lt;(go_wp2_with fail);refine(HS1.out w3' HB4'.out).mono ?_;rintro e s0' ⟨rfl,hb⟩;replace HX:=hid (HX.out.below hb);have HBS0:=hid (HBEL_trans HB4'.out hb);replace HBX0:=hid (HBX0.out.below hb HBX0.out.lt);replace HBX1:=hid (HBX1.out.below hb HBX1.out.lt);replace HBX2:=hid (HBX2.out.below hb HBX2.out.lt);replace HBX3:=hid (HBX3.out.below hb HBX3.out.lt);clear hb t0 t1 tl HS1 HB4';(go_upto_region 22 with fail);have t0:=HX.out.t.at0;have t1:=HX.out.t.at1;have tl:=HX.out.t.lt;(go_wp2_with fail);refine(HS2.out s0' HBS0.out).mono ?_;rintro e s1' ⟨rfl,hb⟩;replace HX:=hid (HX.out.below hb);have HBS1:=hid (HBEL_trans HBS0.out hb);replace HBX0:=hid (HBX0.out.below hb HBX0.out.lt);replace HBX1:=hid (HBX1.out.below hb HBX1.out.lt);replace HBX2:=hid (HBX2.out.below hb HBX2.out.lt);replace HBX3:=hid (HBX3.out.below hb HBX3.out.lt);clear hb t0 t1 tl HS2 HBS0;(go_upto_region 23 with fail);obtain⟨r1,e1⟩:=V1;obtain⟨r2,e2⟩:=V2;obtain⟨r3,e3⟩:=C1;obtain⟨r4,e4⟩:=C2;obtain⟨n5,e5⟩:=S1;obtain⟨n6,e6⟩:=S2;dsimp only at*;by_cases h1:e1=2
        ·subst h1;(go_wp2_with fail);go_ret;exact⟨rfl,HX.out.be⟩
        (have p1:(e1==2)=false:=by simpa using h1);by_cases h2:e2=2
        ·subst h2;(go_wp2_with fail);go_ret;exact⟨rfl,HX.out.be⟩
        (have p2:(e2==2)=false:=by simpa using h2);by_cases h3:e3=2
        ·subst h3;(go_wp2_with fail);go_ret;exact⟨rfl,HX.out.be⟩
        (have p3:(e3==2)=false:=by simpa using h3);by_cases h4:e4=2
        ·subst h4;(go_wp2_with fail);go_ret;exact⟨rfl,HX.out.be⟩
        (have p4:(e4==2)=false:=by simpa using h4);by_cases h5:e5=2
        ·subst h5;(go_wp2_with fail);go_ret;exact⟨rfl,HX.out.be⟩
        (have p5:(e5==2)=false:=by simpa using h5);by_cases h6:e6=2
        ·subst h6;(go_wp2_with fail);go_ret;exact⟨rfl,HX.out.be⟩
        (have p6:(e6==2)=false:=by simpa using h6);obtain⟨q1,q2,q3⟩:=HT2.out h1 h2 h3 h4;clear h1 h2 h3 h4 h5 h6 HT2;have s1:=q1.same;have s2:=q2.same;rw[HE0.out,HE1.out]at s1;rw[HE2.out,HE3.out]at s2;have g1:e1=e2:=q1.1;have g2:e3=e4:=q2.1;clear HE0 HE1 HE2 HE3 q1 q2;obtain⟨rfl,rfl,rfl⟩:=agg3 s1;obtain⟨rfl,rfl,rfl⟩:=agg3 s2;obtain⟨rfl,rfl⟩:=Prod.mk.inj q3;subst g1 g2;clear s1 s2 q3;have k00:=HBX0.out.at0;have k01:=HBX0.out.at1;have k02:=HBX0.out.at2;have k0l:=HBX0.out.lt;have k10:=HBX1.out.at0;have k11:=HBX1.out.at1;have k12:=HBX1.out.at2;have k1l:=HBX1.out.lt;have k20:=HBX2.out.at0;have k21:=HBX2.out.at1;have k22:=HBX2.out.at2;have k2l:=HBX2.out.lt;have k30:=HBX3.out.at0;have k31:=HBX3.out.at1;have k32:=HBX3.out.at2;have k3l:=HBX3.out.lt;go_wp2_with(first|(refine wpList_eqSame (by kernel_rfl) _ _ rfl a0 b0 c0 rfl rfl ?_)|(refine wpList_eqSame (by kernel_rfl) _ _ rfl a2 b2 c2 rfl rfl ?_));go_ret;exact⟨rfl,HX.out.be⟩
   ·(have hck':(CK !=0)=true:=by simpa using hck);(go_wp2_with fail);go_ret;exact⟨rfl,H4.out.be⟩
end
section
open Go.ChangeShapes Go.WideShapes Go.ChangeAt
theorem partsturned_lifted(os:Os)(started:os.Started)(H:Type)(enc:TypeId × Value->H):
  ReturnsInHanded {} Tryz.checked os 6 .any (λw args=>(Rows.partsTurnedSpec.pre enc Tryz.prog Tryz.f6 [] false w args∧laidMetH Tryz.prog laid7 w)∧sizedMet enc Tryz.prog Tryz.f6 (OpenSpec.ofChange Rows.partsTurnedSpec) false w args)
   (Rows.partsTurnedSpec.post enc Tryz.prog Tryz.f6 false true false false):=by
 refine returnsInHanded_of_change_and (C:=Tryz.checked) (X:=λw _=>laidMetH Tryz.prog laid7 w) (λ_ _ _ hh h=>h.of_heap hh) own started (by kernel_rfl) Tryz.func6
  (ChangeSpec.witness_shaped (enc:=enc) (C:=Tryz.checked) (os:=os) (X:=λw _=>laidMetH Tryz.prog laid7 w) false (World.laidAll Tryz.prog os laid7) #[.agg #[.slice none 0 0,.slice none 0 0],.slice none 0 0,.slice none 0 0,.string ByteArray.empty,.string ByteArray.empty,.int .i64 0,.agg #[.string ByteArray.empty,.slice none 0 0,.string ByteArray.empty,.int .i64 0,.slice none 0 0]] 8 (World.laidAll_os _ _ _) (laid_shape7 os) (by kernel_rfl) (by kernel_rfl) (by kernel_rfl) (laid_met7 os _)) ?_
 intro W base args ds gs before hval0 hW _ hsz0 hL _;have hval:∀(j:Nat) t v,Tryz.f6.params[j]? =some t->args[j]? =some v->Value.okWide Tryz.prog W .any base t v:=hval0;have hW':=hW;obtain⟨p,q,hA0,hV,rfl,-,-⟩:=hW;have hA:DataW.TrodAll enc Tryz.prog W 0 (λ_=>true) true Tryz.f6.params.toList args.toList ds p:=hA0;have hsz:(DataW.weightsEach Tryz.prog (Tryz.f6.params.toList++Rows.partsTurnedSpec.plain.varTypes Tryz.prog) (ds++gs)).all (· ≤reachBytes)=true:=hsz0;clear hA0 hsz0 hval0;obtain⟨rfl,rfl⟩:=trodVars_none hV;simp only[List.append_nil]at hW';have hAA:=hA;rw[Tryz.params6]at hA hval hsz;obtain⟨v0,vs0,d0,ds0,p0,q0,hargs,rfl,rfl,h0,r0⟩:=trodAll_cons hA;obtain⟨v1,vs1,d1,ds1,p1,q1,rfl,rfl,rfl,h1,r1⟩:=trodAll_cons r0;obtain⟨v2,vs2,d2,ds2,p2,q2,rfl,rfl,rfl,h2,r2⟩:=trodAll_cons r1;obtain⟨v3,vs3,d3,ds3,p3,q3,rfl,rfl,rfl,h3,r3⟩:=trodAll_cons r2;obtain⟨v4,vs4,d4,ds4,p4,q4,rfl,rfl,rfl,h4,r4⟩:=trodAll_cons r3;obtain⟨v5,vs5,d5,ds5,p5,q5,rfl,rfl,rfl,h5,r5⟩:=trodAll_cons r4;obtain⟨v6,vs6,d6,ds6,p6,q6,rfl,rfl,rfl,h6,r6⟩:=trodAll_cons r5;obtain⟨rfl,rfl,rfl⟩:=trodAll_nil r6;obtain rfl:args=#[v0,v1,v2,v3,v4,v5,v6]:=by simpa using congrArg List.toArray hargs
 obtain⟨x0,y0,t0,rfl,a0⟩:=arg_tar (hval 0 27 _ rfl rfl) h0 (rd_arg hsz (j:=0) rfl rfl);obtain⟨xs1,a1⟩:=arg_prods (hval 1 28 _ rfl rfl) h1 (rd_arg hsz (j:=1) rfl rfl);obtain⟨xs2,a2⟩:=arg_rates (hval 2 29 _ rfl rfl) h2 (rd_arg hsz (j:=2) rfl rfl);obtain⟨s3,rfl,a3⟩:=arg_str (hval 3 9 _ rfl rfl) h3 (rd_arg hsz (j:=3) rfl rfl);obtain⟨s4,rfl,a4⟩:=arg_str (hval 4 9 _ rfl rfl) h4 (rd_arg hsz (j:=4) rfl rfl);obtain⟨n5,rfl,a5⟩:=arg_int (hval 5 3 _ rfl rfl) h5 (rd_arg hsz (j:=5) rfl rfl);obtain⟨p6,cs6,rfl,a6⟩:=arg_prod (hval 6 53 _ rfl rfl) h6 (rd_arg hsz (j:=6) rfl rfl);refine(partsTurned_any (Here W) _ _ _ _ t0 xs1 xs2 s3 s4 n5 W a0 a1 a2 (λ_ h=>h) a3 a4 a5 (tab_of_laid7 hL) p6 cs6 a6).mono λe W' ⟨he,hb⟩=> ?_
 subst he;exact⟨_,rfl,law_post hW' hAA rfl rfl (by kernel_rfl) (by kernel_rfl) hb⟩
theorem partsturned_place:(Rows.partsTurnedRow.inPlace==Tryz.prog.inPlace 6)=true:=by kernel_rfl
theorem partsturned_follow:(Rows.partsTurnedRow.unfollowed==Tryz.prog.unfollowed 6)=true:=by kernel_rfl
theorem partsturned_recurs:(Rows.partsTurnedRow.recurses==Tryz.prog.recurses 6)=true:=by kernel_rfl
theorem partsturned_named:(Rows.partsTurnedRow.named==Tryz.prog.varsNamed 6)=true:=by kernel_rfl
theorem partsturned_facts:joinedFacts Tryz.prog 6 Tryz.f6 Rows.partsTurnedSpec Rows.partsTurnedRow=true:=
 joined_parts (by kernel_rfl) laidOut p_rowed (by kernel_rfl) (by kernel_rfl) rfl p_stops rfl p_knobs partsturned_place partsturned_follow partsturned_recurs partsturned_named (by kernel_rfl) (by kernel_rfl) (by kernel_rfl) (by kernel_rfl) (by kernel_rfl) rfl (by kernel_rfl) (by kernel_rfl) (by kernel_rfl)
  p_keys rfl p_heard p_enter p_lifts p_make rfl (by kernel_rfl) (by kernel_rfl) (by kernel_rfl)
theorem partsturned_holds:Rows.PartsTurnedSaid:=
 OpenClaim.holds_of_wide 6 Tryz.f6 rfl rfl rfl rfl rfl rfl rfl ⟨rfl,rfl,rfl,rfl,rfl⟩ rfl rfl rfl rfl rfl (by kernel_rfl) Tryz.func6 partsturned_facts
  (of_decide_eq_true (by kernel_rfl)) (by unfold Func.isWrapper;rw[if_neg (of_decide_eq_false (by kernel_rfl))];exact⟨rfl,rfl⟩)
  (λos started H enc _=>partsturned_lifted os started H enc)
theorem partsturned_card:Rows.PartsTurnedCardSaid:=
 Claim7.holds_tied_plain_at .later [] [.data,.data,.data,.data,.sentinel,.sentinel,.pinned] true (true,"6153792142eb100ff59508268ab888eb745437a65818656218587bab2593252c") true
  partsturned_holds (λ_ h=>by cases h) (by kernel_rfl) (λ_ h=>by cases h) partsTurned_row_tie rfl ⟨rfl,rfl⟩ (by kernel_rfl) rfl
  (λf fn hf hfn=>by
   obtain rfl:f=6:=Option.some.inj ((show Tryz.prog.funcNamed "customhouse/customhouselaw28.PartsTurned" =some 6 by kernel_rfl).symm.trans hf) |>.symm;obtain rfl:fn=Tryz.f6:=(Option.some.inj (Tryz.func6.symm.trans hfn)).symm
   exact⟨by kernel_rfl,λj t ht=>by
    rw[Tryz.params6]at ht;(have hm:t∈[27,28,29,9,9,3,53]:=by simpa using Array.mem_of_getElem? ht);have hall:([27,28,29,9,9,3,53].all λu=> !Tryz.prog.wantsStandIn u)=true:=by kernel_rfl
    exact(show Tryz.prog.wantsStandIn t=false by simpa using List.all_eq_true.1 hall t hm)⟩)
  (by kernel_rfl)
end
end Go.Proofs.YtaedcjcdpckkaaaGreatDoor
