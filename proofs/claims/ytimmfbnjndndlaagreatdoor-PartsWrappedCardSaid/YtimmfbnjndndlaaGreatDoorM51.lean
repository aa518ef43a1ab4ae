/- Texts PY PZ RX RZ RL3 RWR R4. -/
import Derived.Test.YtimmfbnjndndlaaGreatDoorM49
set_option linter.all false
namespace Go.Proofs.YtimmfbnjndndlaaGreatDoor
open Go.RowKit
set_option maxHeartbeats 8000000
set_option maxRecDepth 100000
theorem ready_some{l:List ProdD}{f:ByteArray->Nat}(hids:(idsP l).Nodup)(hk:∀p∈l,∀c∈partsOf p,c∈idsP l)(hd:∀p∈l,∀c∈partsOf p,f c<f p.id){out:List ByteArray}(hi:OrdI l out)(hl:out.length<l.length):∃p,l.find? (readyP out)=some p:=by
 have h1:∃n,∃p∈l,p.id∉out∧f p.id=n:=by
  apply Classical.byContradiction;intro hn
  have:∀x∈idsP l,x∈out:=by
   intro x hx;obtain⟨p,hp,rfl⟩:=List.mem_map.1 hx;apply Classical.byContradiction;intro h0;exact hn ⟨_,p,hp,h0,rfl⟩
  have:=List.Nodup.length_le_of_subset hids this;unfold idsP at this;rw[List.length_map]at this;omega
 obtain⟨n,hn⟩:=h1
 induction n using Nat.strongRecOn with
 | _ n ih=>
  obtain⟨p,hp,h2,h3⟩:=hn;by_cases hr:readyP out p=true
  ·cases hf:l.find? (readyP out)with
   |some q=>exact⟨q,rfl⟩
   |none=>rw[List.find?_eq_none]at hf;exact absurd hr (hf p hp)
  ·have:¬(p.id∉out∧∀c∈partsOf p,c∈out):=λh=>hr (readyP_iff.2 h)
   have:∃c,c∈partsOf p∧c∉out:=by
    apply Classical.byContradiction;intro h0;refine this ⟨h2,λc hc=> ?_⟩;apply Classical.byContradiction;intro h4;exact h0 ⟨c,hc,h4⟩
   obtain⟨c,hc,hco⟩:=this;obtain⟨q,hq,hqe⟩:=List.mem_map.1 (hk p hp c hc);have hlt:=hd p hp c hc;exact ih (f c) (by omega) ⟨q,hq,by rw[hqe];exact hco,by rw[hqe]⟩
theorem ordGo_some{l:List ProdD}{f:ByteArray->Nat}(hids:(idsP l).Nodup)(hk:∀p∈l,∀c∈partsOf p,c∈idsP l)(hd:∀p∈l,∀c∈partsOf p,f c<f p.id):
  ∀(n:Nat)(out:List ByteArray),OrdI l out->out.length+n≤l.length->∃o,ordGo l n out=some o
 |0,out,_,_=>⟨out,rfl⟩
 |n+1,out,hi,hl=>by
  obtain⟨p,hp⟩:=ready_some hids hk hd hi (by omega);unfold ordGo;rw[hp];exact ordGo_some hids hk hd n _ (hi.snoc hp) (by rw[List.length_append,List.length_singleton];omega)
structure ProperP (t:TarD) (l:List ProdD) (f:ByteArray->Nat):Prop where
 tar:validT t=true
 small:largeP l=false
 good:∀p∈l,badP t p=false
 ids:(idsP l).Nodup
 parts:∀p∈l,(partsOf p).Nodup
 known:∀p∈l,∀c∈partsOf p,c∈idsP l
 down:∀p∈l,∀c∈partsOf p,f c<f p.id
 cls:∀p∈l,(classT t p.cas).2=0
theorem ProperP.check{t:TarD}{l:List ProdD}{f:ByteArray->Nat}(h:ProperP t l f):checkP t l=0:=by
 have e1:l.any (badP t)=false:=by rw[List.any_eq_false];intro p hp;rw[h.good p hp];simp
 have e2:l.any oddP=false:=by rw[List.any_eq_false];intro p hp;rw[(badP_no (h.good p hp)).1];simp
 have e3:onceP l=true:=by unfold onceP;simp only[Bool.and_eq_true,decide_eq_true_eq,List.all_eq_true];exact⟨h.ids,h.parts⟩
 have e4:knownP l=true:=by unfold knownP;simp only[List.all_eq_true,decide_eq_true_eq];exact h.known
 have e5:(orderP l).2=0:=by
  obtain⟨o,ho⟩:=ordGo_some h.ids h.known h.down l.length [] (OrdI.nil l) (by simp);unfold orderP;rw[h.small,e2,e3,e4,ho];rfl
 have e6:firstE t l=0:=by
  have hc:=h.cls;clear h e1 e2 e3 e4 e5
  induction l with
  |nil=>rfl
  |cons p r ih=>
   unfold firstE;rw[if_neg (by simpa using hc p (List.mem_cons_self ..))];exact ih λq hq=>hc q (List.mem_cons_of_mem _ hq)
 unfold checkP;rw[h.tar,h.small,e1,e5,e6];rfl
theorem proper_of{t:TarD}{l:List ProdD}(h:checkP t l=0):∃o,OrdOk l o∧ProperP t l (rk o):=by
 obtain⟨c1,c2,⟨o,c3⟩,c4⟩:=checkP_ok h;exact⟨o,c3,c1,c3.small,c2,c3.ids,c3.parts,c3.known,λp hp c hc=>c3.down hp hc,c4⟩
def turnP(p:ProdD):ProdD:={p with parts:=p.parts.reverse}
def turnL(l:List ProdD):List ProdD:=(l.map turnP).reverse
theorem idsP_turn(l:List ProdD):idsP (turnL l)=(idsP l).reverse :=by
 unfold idsP turnL;rw[List.map_reverse,List.map_map];rfl
theorem partsOf_turn(p:ProdD):partsOf (turnP p)=(partsOf p).reverse :=by unfold partsOf turnP;simp
theorem mem_turn{l:List ProdD}{q:ProdD}(h:q∈turnL l):∃p∈l,q=turnP p:=by
 unfold turnL at h;rw[List.mem_reverse]at h;obtain⟨p,hp,e⟩:=List.mem_map.1 h;exact⟨p,hp,e.symm⟩
theorem turn_mem{l:List ProdD}{p:ProdD}(h:p∈l):turnP p∈turnL l:=by
 unfold turnL;rw[List.mem_reverse];exact List.mem_map_of_mem h
theorem nodup_rev{α:Type}{l:List α}(h:l.Nodup):l.reverse.Nodup:=by
 unfold List.Nodup at h⊢;exact List.pairwise_reverse.2 (h.imp λh e=>h e.symm)
theorem any_rev{α:Type}{q:α->Bool}{l:List α}:l.reverse.any q=l.any q:=by simp
theorem oddP_turn(p:ProdD):oddP (turnP p)=oddP p:=by unfold oddP turnP;simp
theorem largeP_turn(l:List ProdD):largeP (turnL l)=largeP l:=by
 unfold largeP turnL;rw[any_rev,List.length_reverse,List.length_map,List.any_map];congr 2;funext p;simp[turnP]
theorem proper_turn{t:TarD}{l:List ProdD}{f:ByteArray->Nat}(h:ProperP t l f):ProperP t (turnL l) f where
 tar:=h.tar
 small:=by rw[largeP_turn];exact h.small
 good:=λq hq=>by
  obtain⟨p,hp,rfl⟩:=mem_turn hq;have:=h.good p hp;unfold badP at this⊢;rw[oddP_turn];exact this
 ids:=by rw[idsP_turn];exact nodup_rev h.ids
 parts:=λq hq=>by obtain⟨p,hp,rfl⟩:=mem_turn hq;rw[partsOf_turn];exact nodup_rev (h.parts p hp)
 known:=λq hq c hc=>by
  obtain⟨p,hp,rfl⟩:=mem_turn hq;rw[partsOf_turn,List.mem_reverse]at hc;rw[idsP_turn,List.mem_reverse];exact h.known p hp c hc
 down:=λq hq c hc=>by
  obtain⟨p,hp,rfl⟩:=mem_turn hq;rw[partsOf_turn,List.mem_reverse]at hc;exact h.down p hp c hc
 cls:=λq hq=>by obtain⟨p,hp,rfl⟩:=mem_turn hq;exact h.cls p hp
structure AlikeP (l l':List ProdD):Prop where
 get:∀id∈idsP l,∃p p',prodOf l id=some p∧prodOf l' id=some p'∧p'.cas=p.cas∧p'.cur=p.cur∧p'.units=p.units∧p'.id=p.id∧p'.parts.Perm p.parts
theorem sumQ_perm{T:CompD->Rat}{L L':List CompD}(h:L.Perm L'):sumQ T L=sumQ T L':=by
 induction h with
 |nil=>rfl
 |cons x _ ih=>simp only[sumQ,ih]
 |swap x y l=>simp only[sumQ];rw[Rat.add_left_comm]
 |trans _ _ h1 h2=>exact h1.trans h2
theorem sumQ_congr{T T':CompD->Rat}:∀{L:List CompD},(∀c∈L,T c=T' c)->sumQ T L=sumQ T' L
 |[],_=>rfl
 |c::L,h=>by
  simp only[sumQ];rw[h c (List.mem_cons_self ..),sumQ_congr λd hd=>h d (List.mem_cons_of_mem _ hd)]
theorem convR_err{r:List RateD}{base cur:ByteArray}{u day:Int}(h1:amtOk cur u=true)(h2:validRates r base=true)(h3:dayOk day=true):(convR r base cur u base day).2=0∨(convR r base cur u base day).2=11:=by
 have hb:=(validRates_ok h2).1;have hc:curOk cur=true:=by unfold amtOk at h1;simp only[Bool.and_eq_true]at h1;exact h1.1
 have eb:findR r base base day=(⟨base,0,1,1⟩,0):=by unfold findR;simp[h2,h3,hb]
 have ec:(findR r base cur day).2=0∨(findR r base cur day).2=11:=by
  unfold findR;rw[if_neg (by simp[h2,h3,hc])];split
  ·exact .inl rfl
  ·cases bestR r cur day with
   |none=>exact .inr rfl
   |some x=>exact .inl rfl
 unfold convR;rw[if_neg (by simp[h1]),eb];rcases ec with ec|ec
 ·rw[if_neg (by simpa using ec),if_neg (by simp)];exact .inl rfl
 ·rw[if_pos (by rw[ec];decide),ec];exact .inr rfl
def In3(e:Int):Prop:=e=0∨e=2∨e=11
theorem alike_V{t:TarD}{l l':List ProdD}{o o':List ByteArray}(h:OrdOk l o)(h':OrdOk l' o')(hb:∀p∈l,badP t p=false)(ha:AlikeP l l'){r:List RateD}{base:ByteArray}{day:Int}(h2:validRates r base=true)(h3:dayOk day=true):
  ∀(n:Nat)(id:ByteArray),rk o id<n->id∈idsP l->In3 (totV l r base day id).2∧In3 (totV l' r base day id).2∧
   ((totV l r base day id).2=2∨(totV l' r base day id).2=2∨((totV l r base day id).2=(totV l' r base day id).2∧((totV l r base day id).2=0->(totV l r base day id).1=(totV l' r base day id).1))):=by
 intro n
 induction n with
 |zero=>exact λ_ hn _=>absurd hn (Nat.not_lt_zero _)
 |succ n IH=>
  intro id hn hm;obtain⟨p,p',hp,hp',e1,e2,e3,e4,e5⟩:=ha.get id hm;obtain⟨q1,q2⟩:=prodOf_some hp;obtain⟨q1',q2'⟩:=prodOf_some hp';obtain⟨b1,b2,b3,b4⟩:=badP_no (hb p q1);have ev:=totV_eq h r base day hp;have ev':=totV_eq h' r base day hp';rw[e2,e3]at ev';have hm':id∈idsP l':=by rw[<-q2'];exact List.mem_map_of_mem q1'
  have ih:=λc(hc:c∈p.parts)=>IH c.prod (by have:=h.down q1 (comp_part hc);rw[q2]at this;omega) (h.known _ q1 _ (comp_part hc))
  have hc':∀c∈p'.parts,c∈p.parts:=λc hc=>e5.mem_iff.1 hc
  have hl:=λ(h0:(totV l r base day id).2=0)=>totV_low h hm h0;have hl':=λ(h0:(totV l' r base day id).2=0)=>totV_low h' hm' h0;have hx:=convR_err (u:=p.units) b2 h2 h3;have hxl:=λh=>convR_low (l:=r) (base:=base) (cur:=p.cur) (tc:=base) (u:=p.units) (day:=day) h
  generalize convR r base p.cur p.units base day=x at*
  have i1:In3 (totV l r base day id).2:=by
   by_cases h0:(totV l r base day id).2=0
   ·exact .inl h0
   ·rw[ev]at h0⊢;rcases foldT_err h0 with⟨a,b⟩|⟨c,hc,a,b⟩|a
    ·rw[b];rcases hx with hx|hx
     ·exact .inl hx
     ·exact .inr (.inr hx)
    ·rw[b];exact(ih c hc).1
    ·exact .inr (.inl a)
  have i2:In3 (totV l' r base day id).2:=by
   by_cases h0:(totV l' r base day id).2=0
   ·exact .inl h0
   ·rw[ev']at h0⊢;rcases foldT_err h0 with⟨a,b⟩|⟨c,hc,a,b⟩|a
    ·rw[b];rcases hx with hx|hx
     ·exact .inl hx
     ·exact .inr (.inr hx)
    ·rw[b];exact(ih c (hc' c hc)).2.1
    ·exact .inr (.inl a)
  refine⟨i1,i2,?_⟩
  have k1:(totV l r base day id).2=0->x.2=0∧(∀c∈p.parts,(totV l r base day c.prod).2=0)∧(totV l r base day id).1.toQ =x.1.toQ+sumQ (λc=>(totV l r base day c.prod).1.toQ) p.parts:=λh0=>by
   rw[ev]at h0⊢;obtain⟨a,b,_,d⟩:=foldT_ok (T:=λc=>totV l r base day c.prod) (λc hc h0=>(totV_low h (h.known _ q1 _ (comp_part hc)) h0).den) hxl h0;exact⟨a,b,d⟩
  have k2:(totV l' r base day id).2=0->x.2=0∧(∀c∈p'.parts,(totV l' r base day c.prod).2=0)∧(totV l' r base day id).1.toQ =x.1.toQ+sumQ (λc=>(totV l' r base day c.prod).1.toQ) p'.parts:=λh0=>by
   rw[ev']at h0⊢;obtain⟨a,b,_,d⟩:=foldT_ok (T:=λc=>totV l' r base day c.prod) (λc hc h0=>(totV_low h' (h'.known _ q1' _ (comp_part hc)) h0).den) hxl h0;exact⟨a,b,d⟩
  have j1:(totV l r base day id).2≠0->(x.2≠0∧(totV l r base day id).2=x.2)∨(∃c∈p.parts,(totV l r base day c.prod).2≠0∧(totV l r base day id).2=(totV l r base day c.prod).2)∨(totV l r base day id).2=2:=λh0=>by
   rw[ev]at h0⊢;exact foldT_err h0
  have j2:(totV l' r base day id).2≠0->(x.2≠0∧(totV l' r base day id).2=x.2)∨(∃c∈p'.parts,(totV l' r base day c.prod).2≠0∧(totV l' r base day id).2=(totV l' r base day c.prod).2)∨(totV l' r base day id).2=2:=λh0=>by
   rw[ev']at h0⊢;exact foldT_err h0
  clear ev ev';rcases i1 with i1|i1|i1
  ·obtain⟨a1,a2,a3⟩:=k1 i1;rcases i2 with i2|i2|i2
   ·refine .inr (.inr ⟨by rw[i1,i2],λ_=>toQ_inj (hl i1) (hl' i2) ?_⟩);obtain⟨b1,b2,b3⟩:=k2 i2;rw[a3,b3,<-sumQ_perm e5.symm];congr 1;(refine sumQ_congr λc hc=> ?_);rcases(ih c hc).2.2 with q|q|⟨_,q⟩
    ·exact absurd ((a2 c hc).symm.trans q) (by decide)
    ·exact absurd ((b2 c (e5.mem_iff.2 hc)).symm.trans q) (by decide)
    ·rw[q (a2 c hc)]
   ·exact .inr (.inl i2)
   ·rcases j2 (by rw[i2];decide)with⟨a,_⟩|⟨c,hc,a,b⟩|a
    ·exact absurd a1 a
    ·rcases(ih c (hc' c hc)).2.2 with q|q|⟨q,_⟩
     ·rw[a2 c (hc' c hc)]at q;cases q
     ·rw[q]at b;exact .inr (.inl b)
     ·rw[a2 c (hc' c hc)]at q;exact absurd q.symm a
    ·exact .inr (.inl a)
  ·exact .inl i1
  ·rcases i2 with i2|i2|i2
   ·obtain⟨b1,b2,_⟩:=k2 i2;rcases j1 (by rw[i1];decide)with⟨a,_⟩|⟨c,hc,a,b⟩|a
    ·exact absurd b1 a
    ·rcases(ih c hc).2.2 with q|q|⟨q,_⟩
     ·rw[q]at b;exact .inl b
     ·rw[b2 c (e5.mem_iff.2 hc)]at q;cases q
     ·rw[b2 c (e5.mem_iff.2 hc)]at q;exact absurd q a
    ·exact .inl a
   ·exact .inr (.inl i2)
   ·exact .inr (.inr ⟨by rw[i1,i2],λh0=>by rw[i1]at h0;cases h0⟩)
theorem alike_C{t:TarD}{l l':List ProdD}{o o':List ByteArray}(h:OrdOk l o)(h':OrdOk l' o')(hb:∀p∈l,badP t p=false)(hb':∀p∈l',badP t p=false)(ha:AlikeP l l'){r:List RateD}{base:ByteArray}{day:Int}(h2:validRates r base=true)(h3:dayOk day=true):
  ∀(n:Nat)(id:ByteArray),rk o id<n->id∈idsP l->(totV l r base day id).2=0->(totV l' r base day id).2=0->
   (totC t l r base day id).2=2∨(totC t l' r base day id).2=2∨((totC t l r base day id).2=0∧(totC t l' r base day id).2=0∧(totC t l r base day id).1=(totC t l' r base day id).1):=by
 intro n
 induction n with
 |zero=>exact λ_ hn _ _ _=>absurd hn (Nat.not_lt_zero _)
 |succ n IH=>
  intro id hn hm h0 h0';obtain⟨p,p',hp,hp',e1,e2,e3,e4,e5⟩:=ha.get id hm;obtain⟨q1,q2⟩:=prodOf_some hp;obtain⟨q1',q2'⟩:=prodOf_some hp';have hm':id∈idsP l':=by rw[<-q2'];exact List.mem_map_of_mem q1'
  have hc':∀c∈p'.parts,c∈p.parts:=λc hc=>e5.mem_iff.1 hc
  obtain⟨x0,xk,-,-⟩:=foldT_ok (T:=λc=>totV l r base day c.prod) (L:=p.parts) (x:=convR r base p.cur p.units base day) (λc hc h0=>(totV_low h (h.known _ q1 _ (comp_part hc)) h0).den) (λh=>convR_low h) (by rw[<-totV_eq h r base day hp];exact h0);obtain⟨x0',xk',-,-⟩:=foldT_ok (T:=λc=>totV l' r base day c.prod) (L:=p'.parts) (x:=convR r base p'.cur p'.units base day) (λc hc h0=>(totV_low h' (h'.known _ q1' _ (comp_part hc)) h0).den) (λh=>convR_low h) (by rw[<-totV_eq h' r base day hp'];exact h0');obtain⟨-,m1,m2⟩:=ctl_le (t:=t) h hb r base day _ id (Nat.lt_succ_self _) hm h0;obtain⟨-,m1',m2'⟩:=ctl_le (t:=t) h' hb' r base day _ id (Nat.lt_succ_self _) hm' h0';have ih:=λc(hc:c∈p.parts)=>IH c.prod (by have:=h.down q1 (comp_part hc);rw[q2]at this;omega) (h.known _ q1 _ (comp_part hc)) (xk c hc) (xk' c (e5.mem_iff.2 hc))
  have hcl:=λc(hc:c∈p.parts)=>(ctl_le (t:=t) h hb r base day _ c.prod (Nat.lt_succ_self _) (h.known _ q1 _ (comp_part hc)) (xk c hc)).2.1
  have hcl':=λc(hc:c∈p'.parts)=>(ctl_le (t:=t) h' hb' r base day _ c.prod (Nat.lt_succ_self _) (h'.known _ q1' _ (comp_part hc)) (xk' c hc)).2.1
  by_cases z1:(totC t l r base day id).2=0
  ·by_cases z2:(totC t l' r base day id).2=0
   ·refine .inr (.inr ⟨z1,z2,?_⟩);have c1:=totC_eq (t:=t) h r base day hp;have c2:=totC_eq (t:=t) h' r base day hp';rw[e1]at c2;by_cases hct:ctlLine t p.cas=true
    ·rw[if_pos hct]at c1 c2;rw[c1,c2];rcases(alike_V h h' hb ha h2 h3 _ id (Nat.lt_succ_self _) hm).2.2 with q|q|⟨_,q⟩
     ·rw[h0]at q;cases q
     ·rw[h0']at q;cases q
     ·exact q h0
    ·rw[if_neg hct]at c1 c2;have L1:=(m1 z1).1;have L2:=(m1' z2).1;refine toQ_inj L1 L2 ?_;rw[c1]at z1⊢;rw[c2]at z2⊢;obtain⟨_,y1,_,y2⟩:=foldT_ok (T:=λc=>totC t l r base day c.prod) (λc hc h0=>(hcl c hc h0).1.den) (λ_=>rt0_low) z1;obtain⟨_,y1',_,y2'⟩:=foldT_ok (T:=λc=>totC t l' r base day c.prod) (λc hc h0=>(hcl' c hc h0).1.den) (λ_=>rt0_low) z2;rw[y2,y2',rt0_q,Rat.zero_add,Rat.zero_add,<-sumQ_perm e5.symm];(refine sumQ_congr λc hc=> ?_);rcases ih c hc with q|q|⟨_,_,q⟩
     ·exact absurd ((y1 c hc).symm.trans q) (by decide)
     ·exact absurd ((y1' c (e5.mem_iff.2 hc)).symm.trans q) (by decide)
     ·rw[q]
   ·exact .inr (.inl (m2' z2))
  ·exact .inl (m2 z1)
theorem share_congr{t t':TarD}{l l':List ProdD}{r r':List RateD}{base base' id id':ByteArray}{day day':Int}(h2:(controlP t l r base id day).2=(controlP t' l' r' base' id' day').2)
  (h1:(controlP t l r base id day).2=0->(controlP t l r base id day).1=(controlP t' l' r' base' id' day').1∧(valueP t l r base id day).1=(valueP t' l' r' base' id' day').1):shareP t l r base id day=shareP t' l' r' base' id' day':=by
 unfold shareP;by_cases h0:(controlP t l r base id day).2=0
 ·obtain⟨a,b⟩:=h1 h0;have k0:¬(controlP t l r base id day).2≠0:=by simpa using h0
  have k1:¬(controlP t' l' r' base' id' day').2≠0:=by rw[<-h2];exact k0
  rw[if_neg k0,if_neg k1,a,b]
 ·have k1:(controlP t' l' r' base' id' day').2≠0:=by rw[<-h2];exact h0
  rw[if_pos h0,if_pos k1,h2]
def EqR(x y:Rt × Int):Prop:=x.2=y.2∧(x.2=0->x.1=y.1)
theorem turned_ok{t:TarD}{l l':List ProdD}{r:List RateD}{base id:ByteArray}{day:Int}(h:checkP t l=0)(h':checkP t l'=0)(ha:AlikeP l l')(hid:id∈idsP l↔id∈idsP l')
  (n1:(valueP t l r base id day).2≠2)(n2:(valueP t l' r base id day).2≠2)(n3:(controlP t l r base id day).2≠2)(n4:(controlP t l' r base id day).2≠2):
  EqR (valueP t l r base id day) (valueP t l' r base id day)∧EqR (controlP t l r base id day) (controlP t l' r base id day)∧shareP t l r base id day=shareP t l' r base id day:=by
 obtain⟨-,c2,⟨o,c3⟩,-⟩:=checkP_ok h;obtain⟨-,d2,⟨o',d3⟩,-⟩:=checkP_ok h'
 have eo:openE t l r base id day=openE t l' r base id day:=by
  unfold openE;rw[h,h'];by_cases hm:id∈idsP l
  ·rw[if_pos hm,if_pos (hid.1 hm)]
  ·rw[if_neg hm,if_neg (λh=>hm (hid.2 h))]
 have key:EqR (valueP t l r base id day) (valueP t l' r base id day)∧EqR (controlP t l r base id day) (controlP t l' r base id day):=by
  by_cases h0:openE t l r base id day=0
  ·have h0':=eo.symm.trans h0;obtain⟨-,a2,a3,a4⟩:=openE_ok h0;rw[valueP_ok h0]at n1⊢;rw[valueP_ok h0']at n2⊢;obtain⟨-,-,q⟩:=alike_V (t:=t) c3 d3 c2 ha a2 a3 _ id (Nat.lt_succ_self _) a4
   have q:(totV l r base day id).2=(totV l' r base day id).2∧((totV l r base day id).2=0->(totV l r base day id).1=(totV l' r base day id).1):=by
    rcases q with q|q|q
    ·exact absurd q n1
    ·exact absurd q n2
    ·exact q
   refine⟨q,?_⟩;unfold controlP at n3 n4⊢;(have k0:¬openE t l r base id day≠0:=by simpa using h0);(have k0':¬openE t l' r base id day≠0:=by simpa using h0');rw[if_neg k0]at n3⊢;rw[if_neg k0']at n4⊢;by_cases hv:(totV l r base day id).2=0
   ·have hv':=q.1.symm.trans hv;(have k1:¬(totV l r base day id).2≠0:=by simpa using hv);(have k1':¬(totV l' r base day id).2≠0:=by simpa using hv');rw[if_neg k1]at n3⊢;rw[if_neg k1']at n4⊢;rcases alike_C (t:=t) c3 d3 c2 d2 ha a2 a3 _ id (Nat.lt_succ_self _) a4 hv hv' with w|w|⟨w1,w2,w3⟩
    ·exact absurd w n3
    ·exact absurd w n4
    ·exact⟨by rw[w1,w2],λ_=>w3⟩
   ·(have k1':(totV l' r base day id).2≠0:=by rw[<-q.1];exact hv);rw[if_pos hv,if_pos k1'];exact⟨q.1,λh=>absurd h hv⟩
  ·have e1:∀x:List ProdD,openE t x r base id day=openE t l r base id day->valueP t x r base id day=(rt0,openE t l r base id day)∧controlP t x r base id day=(rt0,openE t l r base id day):=by
    intro x hx;unfold valueP controlP;rw[hx,if_pos h0,if_pos h0];exact⟨rfl,rfl⟩
   obtain⟨a,b⟩:=e1 l rfl;obtain⟨c,d⟩:=e1 l' eo.symm;rw[a,b,c,d];exact⟨⟨rfl,λ_=>rfl⟩,⟨rfl,λ_=>rfl⟩⟩
 refine⟨key.1,key.2,share_congr key.2.1 λh0=>⟨key.2.2 h0,key.1.2 ?_⟩⟩;obtain⟨q1,q2,_,q3⟩:=controlP_ok h0;rw[q3];exact q2
theorem alike_turn{l:List ProdD}(h:(idsP l).Nodup):AlikeP l (turnL l) where
 get:=λid hm=>by
  obtain⟨p,hp⟩:=prodOf_mem hm;obtain⟨q1,q2⟩:=prodOf_some hp;have hn:(idsP (turnL l)).Nodup :=by rw[idsP_turn];exact nodup_rev h
  have:=prodOf_get hn (turn_mem q1);have e:(turnP p).id =id:=q2;rw[e]at this;exact⟨p,turnP p,hp,this,rfl,rfl,rfl,rfl,List.reverse_perm _⟩
theorem prodOf_cons{q:ProdD}{l:List ProdD}{id:ByteArray}(h:q.id≠id):prodOf (q::l) id=prodOf l id:=by
 unfold prodOf;rw[List.find?_cons_of_neg (by simpa using h)]
theorem alike_cons{l l':List ProdD}{q:ProdD}(h:AlikeP l l')(hq:q.id∉idsP l):AlikeP l (q::l') where
 get:=λid hm=>by
  obtain⟨p,p',h1,h2,h3⟩:=h.get id hm;exact⟨p,p',h1,by rw[prodOf_cons (λe=>hq (by rw[e];exact hm))];exact h2,h3⟩
theorem prodOf_append{q:ProdD}{l:List ProdD}{id:ByteArray}(h:id∈idsP l):prodOf (l++[q]) id=prodOf l id:=by
 obtain⟨p,hp⟩:=prodOf_mem h;rw[hp];unfold prodOf at hp⊢;rw[List.find?_append,hp];rfl
theorem prodOf_last{q:ProdD}{l:List ProdD}(h:q.id∉idsP l):prodOf (l++[q]) q.id=some q:=by
 have hn:prodOf l q.id=none:=by
  cases hp:prodOf l q.id with
  |none=>rfl
  |some p=>
   obtain⟨q1,q2⟩:=prodOf_some hp;exact absurd (by rw[<-q2];exact List.mem_map_of_mem q1) h
 unfold prodOf at hn⊢;rw[List.find?_append,hn];simp
theorem idsP_append(l:List ProdD)(q:ProdD):idsP (l++[q])=idsP l++[q.id]:=by unfold idsP;simp
def rkB(o:List ByteArray)(b x:ByteArray):Nat:=if x=b then o.length+1 else rk o x
theorem proper_box{t:TarD}{l:List ProdD}{o:List ByteArray}(ho:OrdOk l o)(h:ProperP t l (rk o)){q:ProdD}(hq:q.id∉idsP l)(hb:badP t q=false)(hc:(classT t q.cas).2=0)(hp:∀c∈partsOf q,c∈idsP l)(hpn:(partsOf q).Nodup)(hl:l.length<60)(hpl:q.parts.length≤12):ProperP t (l++[q]) (rkB o q.id) where
 tar:=h.tar
 small:=by
  have:=h.small;unfold largeP at this⊢;simp only[Bool.or_eq_false_iff,decide_eq_false_iff_not]at this⊢;refine⟨by rw[List.length_append,List.length_singleton];omega,?_⟩;rw[List.any_append,this.2];simp only[List.any_cons,List.any_nil,Bool.or_false,Bool.false_or,decide_eq_false_iff_not];omega
 good:=λp hp=>by
  rcases List.mem_append.1 hp with hp|hp
  ·exact h.good p hp
  ·rw[List.mem_singleton.1 hp];exact hb
 ids:=by
  rw[idsP_append,List.nodup_append];refine⟨h.ids,by simp,λa ha b hb e=> ?_⟩;rw[List.mem_singleton.1 hb]at e;exact hq (by rw[<-e];exact ha)
 parts:=λp hp=>by
  rcases List.mem_append.1 hp with hp|hp
  ·exact h.parts p hp
  ·rw[List.mem_singleton.1 hp];exact hpn
 known:=λp hp' c hc=>by
  rw[idsP_append];rcases List.mem_append.1 hp' with hp'|hp'
  ·exact List.mem_append_left _ (h.known p hp' c hc)
  ·rw[List.mem_singleton.1 hp']at hc;exact List.mem_append_left _ (hp c hc)
 down:=λp hp' c hc=>by
  have hnb:∀x∈idsP l,rkB o q.id x=rk o x:=λx hx=>by unfold rkB;rw[if_neg (λe=>hq (by rw[<-e];exact hx))]
  rcases List.mem_append.1 hp' with hp'|hp'
  ·rw[hnb _ (h.known p hp' c hc),hnb _ (List.mem_map_of_mem hp')];exact h.down p hp' c hc
  ·rw[List.mem_singleton.1 hp']at hc⊢;rw[hnb _ (hp c hc)];(have e:rkB o q.id q.id=o.length+1:=by unfold rkB;rw[if_pos rfl]);rw[e];exact Nat.lt_succ_of_lt (rk_lt (ho.all _ (hp c hc)))
 cls:=λp hp=>by
  rcases List.mem_append.1 hp with hp|hp
  ·exact h.cls p hp
  ·rw[List.mem_singleton.1 hp];exact hc
theorem totS_alike{l l':List ProdD}{o o':List ByteArray}(h:OrdOk l o)(h':OrdOk l' o')(he:∀id∈idsP l,prodOf l' id=prodOf l id){of of':ProdD->(Rt × Int) × Bool}(hof:∀p∈l,of' p=of p):
  ∀(n:Nat)(id:ByteArray),rk o id<n->id∈idsP l->totS l' of' (l'.length+1) id=totS l of (l.length+1) id
 |0,_,hn,_=>absurd hn (Nat.not_lt_zero _)
 |n+1,id,hn,hm=>by
  obtain⟨p,hp⟩:=prodOf_mem hm;obtain⟨q1,q2⟩:=prodOf_some hp;have hp':=he id hm;rw[hp]at hp';rw[totS_eq h of hp,totS_eq h' of' hp',hof p q1];split
  ·rfl
  ·exact foldT_congr _ λc hc=>totS_alike h h' he hof n c.prod (by have:=h.down q1 (comp_part hc);rw[q2]at this;omega) (h.known _ q1 _ (comp_part hc))
theorem addR_zero{m:Rt}(hm:Low m):addR rt0 m=(m,0)∨addR rt0 m=(rt0,2):=by
 rcases addR_cases rt0 m with⟨_,_,e⟩|e
 ·left;rw[e];have:sumR rt0 m=m:=toQ_inj (sumR_low (by decide) hm.den) hm (by rw[sumR_q (by decide) hm.den,rt0_q,Rat.zero_add]);rw[this]
 ·exact .inr e
theorem conv_base{r:List RateD}{base:ByteArray}{day:Int}(h2:validRates r base=true)(h3:dayOk day=true):convR r base base 0 base day=(rt0,0):=by
 have hb:=(validRates_ok h2).1;have eb:findR r base base day=(⟨base,0,1,1⟩,0):=by unfold findR;simp[h2,h3,hb]
 unfold convR;rw[if_neg (by unfold amtOk;simp[hb]),eb,if_neg (by simp),if_neg (by simp)];show(prodQ (prodQ (ofR 0 1) (ofR 1 1)) (ofR 1 1),(0:Int))=(rt0,0);decide+kernel
theorem plus_box{n:Int}{y:Rt × Int}(h0:y.2=0)(hy:0<y.1.den):plusR (rt0,0) n y=mulR (ofR n 1) y.1∨(plusR (rt0,0) n y).2=2:=by
 unfold plusR;rw[if_neg (by simp),if_neg (by simpa using h0)];rcases mulR_cases (ofR n 1) y.1 with⟨_,_,e⟩|e
 ·rw[e];simp only[ne_eq,not_true_eq_false,if_false];rcases addR_zero (prodQ_low (ofR_den (n:=n) (d:=1) (by decide)) hy)with q|q
  ·exact .inl q
  ·right;rw[q]
 ·right;rw[e];simp
theorem box_vals{t:TarD}{l:List ProdD}{r:List RateD}{base id bid:ByteArray}{day n:Int}{cas:List Int}(h:checkP t l=0)(hv:(valueP t l r base id day).2=0)(hc:(controlP t l r base id day).2=0)(hbid:identS bid=true)(hnb:bid∉idsP l)(hfit:fits t.dom cas=true)
  (hcls:(classT t cas).2=0)(hctl:ctlLine t cas=false)(hn:1≤n∧n≤1000)(hl:l.length<60):
  checkP t (l++[⟨bid,cas,base,0,[⟨id,n⟩]⟩])=0∧
  (valueP t (l++[⟨bid,cas,base,0,[⟨id,n⟩]⟩]) r base bid day=mulR (ofR n 1) (valueP t l r base id day).1∨(valueP t (l++[⟨bid,cas,base,0,[⟨id,n⟩]⟩]) r base bid day).2=2)∧
  ((valueP t (l++[⟨bid,cas,base,0,[⟨id,n⟩]⟩]) r base bid day).2=0->controlP t (l++[⟨bid,cas,base,0,[⟨id,n⟩]⟩]) r base bid day=mulR (ofR n 1) (controlP t l r base id day).1∨(controlP t (l++[⟨bid,cas,base,0,[⟨id,n⟩]⟩]) r base bid day).2=2):=by
 obtain⟨h1,h2,h3,h4⟩:=controlP_ok hc;obtain⟨a1,a2,a3,a4⟩:=openE_ok h1;obtain⟨o,ho,hp⟩:=proper_of h
 have hb:badP t ⟨bid,cas,base,0,[⟨id,n⟩]⟩=false:=by
  have hbase:=(validRates_ok a2).1;unfold badP oddP amtOk cntOk;simp[hbid,hbase,hfit,hn.1,hn.2]
 generalize hq:(⟨bid,cas,base,0,[⟨id,n⟩]⟩:ProdD)=q at*;have eid:q.id=bid:=by rw[<-hq]
 have ecas:q.cas=cas:=by rw[<-hq]
 have epa:q.parts=[⟨id,n⟩]:=by rw[<-hq]
 have epo:partsOf q=[id]:=by rw[<-hq];rfl
 have ecu:q.cur=base:=by rw[<-hq]
 have eun:q.units=0:=by rw[<-hq]
 have hpr:ProperP t (l++[q]) (rkB o q.id):=proper_box ho hp (by rw[eid];exact hnb) hb (by rw[ecas];exact hcls) (by rw[epo];intro c hc;rw[List.mem_singleton.1 hc];exact a4) (by rw[epo];simp) hl (by rw[epa];simp);have hck:=hpr.check;obtain⟨-,-,⟨o',ho'⟩,-⟩:=checkP_ok hck;have hpb:prodOf (l++[q]) bid=some q:=by rw[<-eid];exact prodOf_last (by rw[eid];exact hnb)
 have hop:openE t (l++[q]) r base bid day=0:=openE_of hck a2 a3 (by rw[idsP_append,eid];exact List.mem_append_right _ (by simp));have eV:∀x∈idsP l,totV (l++[q]) r base day x=totV l r base day x:=λx hx=>totS_alike ho ho' (λy hy=>prodOf_append hy) (λ_ _=>rfl) _ x (Nat.lt_succ_self _) hx
 have eC:∀x∈idsP l,totC t (l++[q]) r base day x=totC t l r base day x:=λx hx=>totS_alike ho ho' (λy hy=>prodOf_append hy) (λp hp=>by
  unfold ctlP
  rw[eV _ (List.mem_map_of_mem hp)]) _ x (Nat.lt_succ_self _) hx
 have lv:=totV_low ho a4 h2;have lc:=((ctl_le (t:=t) ho hp.good r base day _ id (Nat.lt_succ_self _) a4 h2).2.1 (by rw[<-h3];exact hc)).1;refine⟨hck,?_,?_⟩
 ·rw[valueP_ok hop,totV_eq ho' r base day hpb,ecu,eun,conv_base a2 a3,epa,h4];show plusR (rt0,0) n (totV (l++[q]) r base day id)=_∨(plusR (rt0,0) n (totV (l++[q]) r base day id)).2=2;rw[eV id a4];exact plus_box h2 lv.den
 ·intro h0;rw[valueP_ok hop]at h0;unfold controlP;rw[if_neg (by simpa using hop),if_neg (by simpa using h0),totC_eq (t:=t) ho' r base day hpb,ecas,hctl,epa];simp only[Bool.false_eq_true,if_false];show plusR (rt0,0) n (totC t (l++[q]) r base day id)=mulR (ofR n 1) (controlP t l r base id day).1∨(plusR (rt0,0) n (totC t (l++[q]) r base day id)).2=2;rw[eC id a4,h3];exact plus_box (by rw[<-h3];exact hc) lc.den
theorem share_two{t:TarD}{l:List ProdD}{r:List RateD}{base id:ByteArray}{day:Int}(hc:(controlP t l r base id day).2=0)(h:(shareP t l r base id day).2≠0):(shareP t l r base id day).2=2:=by
 obtain⟨p,hp,hk⟩:=control_ok hc;have hdv:=hk.lowV.den;have hdc:=hk.low.den;have hv0:0≤(valueP t l r base id day).1.toQ :=Rat.le_trans hk.pos hk.le;unfold shareP at h⊢;rw[if_neg (by simpa using hc)]at h⊢;split at h
 ·exact absurd rfl h
 rename_i h2;rw[if_neg h2];split at h
 ·rename_i h3;rw[if_pos h3];rcases mulR_cases (ofR 100 1) (controlP t l r base id day).1 with⟨_,_,e⟩|e
  ·rw[e]at h3;exact absurd rfl h3
  ·rw[e]
 rename_i h3;rw[if_neg h3];obtain⟨ml,mq⟩:=mulR_val (a:=ofR 100 1) (b:=(controlP t l r base id day).1) (by simpa using h3) (ofR_den (by decide)) hdc;rw[ofR_q]at mq;split at h
 ·rename_i h4;rw[if_pos h4];unfold divR at h4⊢;rw[if_neg h2]at h4⊢;split
  ·rfl
  ·rename_i h5;rw[if_neg h5]at h4;exact absurd rfl h4
 rename_i h4;exfalso;apply h;obtain⟨dl,-,dq⟩:=divR_ok ml hk.lowV (by simpa using h4);rw[mq]at dq;generalize (divR (mulR (ofR 100 1) (controlP t l r base id day).1).1 (valueP t l r base id day).1).1=q at*;have hv:0<(valueP t l r base id day).1.toQ :=Rat.lt_of_le_of_ne hv0 λe=>h2 (hk.lowV.eq_zero.1 e.symm)
 have hle:=hk.le;have hpos:=hk.pos;have h100:(0:Rat)≤((100:Int):Rat):=by decide
 have hq0:0≤q.toQ:=by
  refine Rat.le_of_mul_le_mul_right (c:=(valueP t l r base id day).1.toQ) ?_ hv;rw[Rat.zero_mul,dq];exact Rat.mul_nonneg h100 hpos
 have hq1:q.toQ≤((100:Int):Rat):=by
  refine Rat.le_of_mul_le_mul_right (c:=(valueP t l r base id day).1.toQ) ?_ hv;rw[dq];exact Rat.mul_le_mul_of_nonneg_left hle h100
 have hneg:=dl.nonneg.1 hq0;obtain⟨f1,f2⟩:=floor_le dl hneg;have hn100:((q.num / q.den:Nat):Int)≤100:=Rat.intCast_le_intCast.1 (Rat.le_trans f1 hq1);unfold floorR;rw[hneg];simp only[Bool.false_eq_true,if_false];rw[if_pos ⟨Int.le_trans (by decide) (Int.natCast_nonneg _),Int.le_trans hn100 (by decide)⟩]
theorem qcomm(a b c:Rat):a*(b*c)=b*(a*c):=by rw[<-Rat.mul_assoc,Rat.mul_comm a,Rat.mul_assoc]
theorem share_times{t t':TarD}{l l':List ProdD}{r r':List RateD}{base base' id id':ByteArray}{day day' n:Int}(hn:1≤n)(h1:(controlP t l r base id day).2=0)(h2:(controlP t' l' r' base' id' day').2=0)
  (hv:(mulR (ofR n 1) (valueP t l r base id day).1)=(valueP t' l' r' base' id' day'))(hc:(mulR (ofR n 1) (controlP t l r base id day).1)=(controlP t' l' r' base' id' day'))
  (h3:(shareP t l r base id day).2=0)(h4:(shareP t' l' r' base' id' day').2=0):(shareP t' l' r' base' id' day').1=(shareP t l r base id day).1:=by
 obtain⟨p,hp,hk⟩:=control_ok h1;obtain⟨p',hp',hk'⟩:=control_ok h2;have hdv:=hk.lowV.den;have hdc:=hk.low.den
 have hN:(0:Rat)<(n:Rat):=by
  have:=Rat.intCast_lt_intCast.2 (show(0:Int)<n by omega);simpa using this
 obtain⟨vl,vq⟩:=mulR_val (a:=ofR n 1) (b:=(valueP t l r base id day).1) (by rw[hv];exact hk'.val) (ofR_den (by decide)) hdv;obtain⟨cl,cq⟩:=mulR_val (a:=ofR n 1) (b:=(controlP t l r base id day).1) (by rw[hc];exact h2) (ofR_den (by decide)) hdc;rw[ofR_q,hv]at vq;rw[ofR_q,hc]at cq;unfold shareP at h3 h4⊢;have k1:¬(controlP t l r base id day).2≠0:=by simpa using h1
 have k2:¬(controlP t' l' r' base' id' day').2≠0:=by simpa using h2
 rw[if_neg k1]at h3⊢;rw[if_neg k2]at h4⊢
 have hz:(valueP t' l' r' base' id' day').1.num =0↔(valueP t l r base id day).1.num =0:=by
  rw[<-hk'.lowV.eq_zero,<-hk.lowV.eq_zero,vq,Rat.mul_eq_zero];constructor
  ·rintro(h|h)
   ·rw[h]at hN;exact absurd hN Rat.lt_irrefl
   ·exact h
  ·exact .inr
 by_cases h5:(valueP t l r base id day).1.num =0
 ·rw[if_pos h5,if_pos (hz.2 h5)]
 ·have h5':=λh=>h5 (hz.1 h)
  rw[if_neg h5]at h3⊢;rw[if_neg h5']at h4⊢;split at h3
  ·contradiction
  rename_i h6;split at h4
  ·contradiction
  rename_i h6';rw[if_neg h6,if_neg h6'];split at h3
  ·contradiction
  rename_i h7;split at h4
  ·contradiction
  rename_i h7';rw[if_neg h7,if_neg h7'];obtain⟨ml,mq⟩:=mulR_val (a:=ofR 100 1) (b:=(controlP t l r base id day).1) (by simpa using h6) (ofR_den (by decide)) hdc;obtain⟨ml',mq'⟩:=mulR_val (a:=ofR 100 1) (b:=(controlP t' l' r' base' id' day').1) (by simpa using h6') (ofR_den (by decide)) hk'.low.den;obtain⟨dl,-,dq⟩:=divR_ok ml hk.lowV (by simpa using h7);obtain⟨dl',-,dq'⟩:=divR_ok ml' hk'.lowV (by simpa using h7')
  have:(divR (mulR (ofR 100 1) (controlP t' l' r' base' id' day').1).1 (valueP t' l' r' base' id' day').1).1=(divR (mulR (ofR 100 1) (controlP t l r base id day).1).1 (valueP t l r base id day).1).1:=by
   refine toQ_inj dl' dl ?_;(have hv0:(valueP t' l' r' base' id' day').1.toQ ≠0:=λh=>h5' (hk'.lowV.eq_zero.1 h));generalize (divR (mulR (ofR 100 1) (controlP t' l' r' base' id' day').1).1 (valueP t' l' r' base' id' day').1).1.toQ =Q' at*;generalize (divR (mulR (ofR 100 1) (controlP t l r base id day).1).1 (valueP t l r base id day).1).1.toQ =Q at*
   have e:Q'*(valueP t' l' r' base' id' day').1.toQ =Q*(valueP t' l' r' base' id' day').1.toQ :=by
    rw[dq',mq',cq,vq,qcomm Q,dq,mq,qcomm]
   have:=congrArg (· / (valueP t' l' r' base' id' day').1.toQ) e;simp only[Rat.mul_div_cancel hv0]at this;exact this
  rw[this]
theorem box_more{v:Rt}{n m:Int}(hv:0<v.den)(hp:0≤v.toQ)(hnm:n≤m)(h1:(mulR (ofR n 1) v).2=0)(h2:(mulR (ofR m 1) v).2=0)(h3:(cmpR (mulR (ofR n 1) v).1 (mulR (ofR m 1) v).1).2=0):(cmpR (mulR (ofR n 1) v).1 (mulR (ofR m 1) v).1).1≤0:=by
 obtain⟨l1,q1⟩:=mulR_val h1 (ofR_den (by decide)) hv;obtain⟨l2,q2⟩:=mulR_val h2 (ofR_den (by decide)) hv;rw[ofR_q]at q1 q2;rcases cmpR_eq l1 l2 h3 with⟨_,e⟩|⟨_,e⟩|⟨h,_⟩
 ·rw[e];decide
 ·rw[e];decide
 ·exfalso;rw[q1,q2]at h;exact absurd (Rat.mul_le_mul_of_nonneg_right (Rat.intCast_le_intCast.2 hnm) hp) (Rat.not_le.2 h)
section
open Go.Shelf
theorem Tryz.eComp:ElemIs Tryz.prog 51 2 24:=elemIs_of (z:= .agg #[.string ⟨#[]⟩,.int .i64 0]) (by kernel_rfl) rfl (by decide)
theorem comps_own{Z:Zone}{w:World}{base:Nat}{t:TypeId}{v:Value}{l:List CompD}(h:w.ownsRow base t 2 v l.length (l.flatMap CompD.cells))(hf:∀c∈l,c.fit)(hl:l.length*24≤140737488355328)(hz:∀b,v.ownBlock=some b->Z b):Comps Z w v l:=by
 obtain⟨A,cap,rfl,h1,h2,h3⟩:=Row.of_own h (by decide);refine⟨⟨A,cap,rfl,h1,by simpa[maxLen]using h2,hl,?_⟩,hf⟩
 have he:EachR (λcs c=>cs=CompD.cells c) 2 l (l.map CompD.cells):=by
  clear h hf hl h1 h2 h3 hz
  induction l with
  |nil=>trivial
  |cons c l ih=>exact⟨⟨rfl,rfl⟩,ih⟩
 cases l with
 |nil=>unfold SeqR;trivial
 |cons c r=>
  obtain⟨b,off,rfl,hb,hc⟩:=h3 (by simp[CompD.cells]);exact EachR.rows (hz b rfl) he λj u hu=>hc j u (by simpa[List.flatMap]using hu)
structure TurF (w W:World) (tv fv:Array Value):Prop where
 t:Blk W w.heap.size 27 tv
 f:Blk W (w.heap.size+1) 42 fv
 be:Below w.heap.size w W
theorem TurF.below{w W W':World}{tv fv:Array Value}(h:TurF w W tv fv)(hb:Below W.heap.size W W'):TurF w W' tv fv:=
 ⟨h.t.below hb h.t.lt,h.f.below hb h.f.lt,HBEL_trans h.be hb⟩
theorem TurF.new(w:World)(tv fv:Array Value):TurF w ((w.alloc (.cells tv 27)).alloc (.cells fv 42)) tv fv:=by
 have h1:=Blk.new (w.alloc (.cells tv 27)) 42 fv;rw[World.size_alloc]at h1;exact⟨(Blk.new w _ _).alloc _,h1,(below1 w _).alloc (by simp) _⟩
structure BackR (w W:World) (tv fv:Array Value) (v:Value) (ps:List ProdD) (csl:List (List Value)):Prop where
 fr:TurF w W tv fv
 own:W.ownsRow (w.heap.size+1+1) 42 5 v ps.length csl.flatten
 each:EachR (ProdR (λb=>b<W.heap.size∧v.ownBlock≠some b) W) 5 ps csl
theorem BackR.push{w wr U w5:World}{tv fv:Array Value}{v v5:Value}{ps:List ProdD}{csl:List (List Value)}{p:ProdD}{cs:List Value}{o:Obj}(h:BackR w wr tv fv v ps csl)(hU:Below wr.heap.size wr U)(hg:(U.alloc o).grownBy w5 v.ownBlock)
  (ho:w5.ownsRow (w.heap.size+1+1) 42 5 v5 (ps.length+1) (csl.flatten++cs))(hat:v5.ownBlock=v.ownBlock∨v5.ownBlock=some (U.alloc o).heap.size)(hp:ProdR (λb=>b<U.heap.size∧v.ownBlock≠some b) U cs p):
  BackR w w5 tv fv v5 (ps++[p]) (csl++[cs]):=by
 have hUa:Below wr.heap.size wr (U.alloc o):=hU.alloc hU.size o;have hlo:∀k,v.ownBlock=some k->w.heap.size+1+1≤k:=λk e=>(h.own.lt k e).1
 have hs1:=hUa.size;have hs2:(U.alloc o).heap.size =U.heap.size+1:=by simp
 have hs3:(U.alloc o).heap.size ≤w5.heap.size:=hg.size
 have hz:∀b,b<U.heap.size∧v.ownBlock≠some b->b<w5.heap.size∧v5.ownBlock≠some b:=by
  intro b ⟨h1,h2⟩;refine⟨by omega,λe=> ?_⟩;rcases hat with e'|e'
  ·exact h2 (by rw[<-e',e])
  ·rw[e']at e;injection e with e;omega
 have hUs:wr.heap.size≤U.heap.size:=hU.size;refine⟨⟨(h.fr.t.below hUa h.fr.t.lt).grown hg (λe=>by have:=hlo _ e;omega),(h.fr.f.below hUa h.fr.f.lt).grown hg (λe=>by have:=hlo _ e;omega),?_⟩,by simpa using ho,?_⟩
 ·have h2:(U.alloc o).ownsRow (w.heap.size+1+1) 42 5 v ps.length csl.flatten:=own_keep (Z:=λ_=>True) h.own (Keeps.of_below hUa) (λ_ _=>trivial);exact below_own (HBEL_trans h.fr.be hUa) h2 hg (Nat.le_trans h.fr.be.size hs1) (by omega)
 ·refine(h.each.imp λcs' p' hp'=> ?_).append (EachR.one ?_ hp.size)
  ·have k1:Keeps (λb=>b<wr.heap.size∧v.ownBlock≠some b) wr w5:=Keeps.grown (Keeps.of_below hUa) hg (λk e _ hk=>hk.2 e);exact(hp'.keep k1).mono (λb hb=>hz b ⟨by have:=hb.1;omega,hb.2⟩)
  ·have k1:Keeps (λb=>b<U.heap.size∧v.ownBlock≠some b) U w5:=Keeps.grown (Keeps.of_below (below1 U o)) hg (λk e _ hk=>hk.2 e);exact(hp.keep k1).mono hz
structure InnR (wr W:World) (id:ByteArray) (CA:Option Addr) (cn ccap:Nat) (cur:ByteArray) (un:Int) (pv:Value) (L:List CompD):Prop where
 pb:Blk W wr.heap.size 42 #[.string id,.slice CA cn ccap,.string cur,.int .i64 un,pv]
 own:W.ownsRow (wr.heap.size+1) 51 2 pv L.length (L.flatMap CompD.cells)
 be:Below wr.heap.size wr W
theorem InnR.push{wr W w5:World}{id cur:ByteArray}{CA:Option Addr}{cn ccap:Nat}{un:Int}{pv v5:Value}{L:List CompD}{c:CompD}{o:Obj}(h:InnR wr W id CA cn ccap cur un pv L)(hg:(W.alloc o).drew.grownBy w5 pv.ownBlock)
  (ho:w5.ownsRow (wr.heap.size+1) 51 2 v5 (L.length+1) (L.flatMap CompD.cells++CompD.cells c))(_hat:v5.ownBlock=pv.ownBlock∨v5.ownBlock=some (W.alloc o).drew.heap.size):
  InnR wr (w5.setCell ⟨wr.heap.size,4,none⟩ v5) id CA cn ccap cur un v5 (L++[c]):=by
 have hlo:pv.ownBlock≠some wr.heap.size:=λe=>by have:=(h.own.lt _ e).1;omega
 have hlo5:v5.ownBlock≠some wr.heap.size:=λe=>by have:=(ho.lt _ e).1;omega
 refine⟨((h.pb.alloc o).drew.grown hg hlo).set_ 4 _,?_,?_⟩
 ·have h1:=own_keep (Z:=λb=>b≠wr.heap.size) ho ((Keeps.refl _ _).setCell (p:=⟨wr.heap.size,4,none⟩) (λ_ h=>h rfl) v5) (λk hk e=>hlo5 (by rw[hk,e]));simpa using h1
 ·have h1:Below wr.heap.size wr (W.alloc o).drew :=(h.be.alloc h.be.size o).drew;have h2:(W.alloc o).drew.ownsRow (wr.heap.size+1) 51 2 pv L.length (L.flatMap CompD.cells):=h.own.alloc o;exact(below_own h1 h2 hg h1.size (by omega)).setCell (p:=⟨wr.heap.size,4,none⟩) (Nat.le_refl _) v5
theorem oper_appendR{P:Program}{o:Oper}{a:Act}{w:World}{K:Act->World->Prop}{Q:Exit->Act->World->Prop}
  (s x:Operand)(t:TypeId)(ho:o.op= .call {callee:= .builtin .append,args:=#[s,x],argTypes:=#[t,t]})
  {base:Nat}{e:TypeId}{size bytes:Nat}(ht:P.underlying t=some (.slice e))(El:ElemIs P e size bytes){v:Value}{n:Nat}{xs:List Value}(hs:a.eval s=v)(hown:w.ownsRow base e size v n xs)
  {A:Option Addr}{m c:Nat}(hx:a.eval x= .slice A m c){Zn:Zone}{news:List Value}(hn:news.length=m*size)(hr:Row Zn w A news)(h1:∀u∈news,u.oneCell'=true)(h63:n+m≤maxLen)(hb:(n+m)*bytes≤140737488355328)(hbase:base≤w.heap.size)
  (hK:∀v' w',w'.ownsRow base e size v' (n+m) (xs++news)->w.grownBy w' v.ownBlock->(v'.ownBlock=v.ownBlock∨v'.ownBlock=some w.heap.size)->K (a.put o.dst v') w'):
  Oper.wp P o a w K Q:=by
 obtain⟨v',w',hrun,h2,h3,h4⟩:=run_appendN (ty:=o.type) ht El hown hn hr h1 h63 hb hbase;unfold Oper.wp execOp;simp only[ho,resolve,invoke,builtin,Sem.run_bind,Sem.run_pure,Result.andThen_ok,List.map_toArray,List.map_cons,List.map_nil,hs,hx];rw[hrun];exact hK _ _ h2 h3 h4
theorem wpList_appendR{P:Program}{ops:Array Oper}{rest:List Oper}{o:Oper}{a:Act}{w:World}{Q:Exit->Act->World->Prop}(hgd:o.guard=none)
  (s x:Operand)(t:TypeId)(ho:o.op= .call {callee:= .builtin .append,args:=#[s,x],argTypes:=#[t,t]})
  {base:Nat}{e:TypeId}{size bytes:Nat}(ht:P.underlying t=some (.slice e))(El:ElemIs P e size bytes){v:Value}{n:Nat}{xs:List Value}(hs:a.eval s=v)(hown:w.ownsRow base e size v n xs)
  {A:Option Addr}{m c:Nat}(hx:a.eval x= .slice A m c){Zn:Zone}{news:List Value}(hn:news.length=m*size)(hr:Row Zn w A news)(h1:∀u∈news,u.oneCell'=true)(h63:n+m≤maxLen)(hb:(n+m)*bytes≤140737488355328)(hbase:base≤w.heap.size)
  (h:∀v' w',w'.ownsRow base e size v' (n+m) (xs++news)->w.grownBy w' v.ownBlock->(v'.ownBlock=v.ownBlock∨v'.ownBlock=some w.heap.size)->wpList P ops Q rest (a.put o.dst v') w'):wpList P ops Q (o::rest) a w:=
 wpList_plain hgd λ_ hK=>oper_appendR s x t ho ht El hs hown hx hn hr h1 h63 hb hbase λv' w' a1 a2 a3=>hK _ _ (h v' w' a1 a2 a3)
theorem wpList_eqSame{ops:Array Oper}{rest:List Oper}{o:Oper}{a:Act}{w:World}{Q:Exit->Act->World->Prop}(hgd:Region.wanted o (yielded ops a.tmps)=true)(x y:Operand)(ho:o.op= .binOp .eql 53 x y 53)(b0:Bool)(b1 b2:ByteArray)
  (hx:a.eval x= .agg #[.bool b0,.string b1,.string b2])(hy:a.eval y= .agg #[.bool b0,.string b1,.string b2])
  (h:wpList Tryz.prog ops Q rest (a.put o.dst (.bool true)) w):wpList Tryz.prog ops Q (o::rest) a w:=
 BigFrame.wpList_want hgd λK hK=>by
  have h1:(eqGuard .eql 53 x y (.agg #[.bool b0,.string b1,.string b2]) (.agg #[.bool b0,.string b1,.string b2])).run Tryz.prog w= .ok () w:=run_eqGuard_agg w .eql 53 x y _ _ (by kernel_rfl)
  have h2:(binOp .eql 53 (.agg #[.bool b0,.string b1,.string b2]) (.agg #[.bool b0,.string b1,.string b2])).run Tryz.prog w= .ok (.bool true) w:=by
   (have e:∀z:ByteArray,(z==z)=true:=λz=>(MapKept.bytes_beq _ _).2 rfl);rw[run_eql_struct,run_eql_rat,e,e];simp
  unfold Oper.wp execOp;simp only[ho,hx,hy,Sem.run_bind,h1,h2,Result.andThen_ok,Sem.run_pure];exact hK _ _ h
theorem rtE_is'{M:Rt × Int}(h:M.2=0):rtE M=rtV M.1:=by obtain⟨r,e⟩:=M;exact if_pos h
theorem EqR.same{x y:Rt × Int}(h:EqR x y):rtE x=rtE y:=by
 by_cases h0:x.2=0
 ·rw[rtE_is' h0,rtE_is' (h.1.symm.trans h0),h.2 h0]
 ·obtain⟨a,b⟩:=x;obtain⟨c,d⟩:=y;rw[rtE_err h0,rtE_err (λh1=>h0 (h.1.trans h1))]
theorem each_one{Z:Zone}{w:World}:∀{ps:List ProdD}{csl:List (List Value)},EachR (ProdR Z w) 5 ps csl->∀u∈csl.flatten,u.oneCell'=true
 |[],[],_,_,h=>by simp at h
 |p::ps,c::cs,h,u,hu=>by
  rw[List.flatten_cons,List.mem_append]at hu;rcases hu with hu|hu
  ·obtain⟨CA,ccap,PA,pcap,rfl,-⟩:=h.1.1.form2;simp at hu;rcases hu with rfl|rfl|rfl|rfl|rfl<;>rfl
  ·exact each_one h.2 u hu
 |[],_::_,h,_,_=>h.elim
 | _::_,[],h,_,_=>h.elim
theorem cons_prods{wr W:World}{base:Nat}{t:TypeId}{v:Value}{ps:List ProdD}{fp:ProdD}{csl:List (List Value)}{fcs:List Value}(hb:Below wr.heap.size wr W)(hE:EachR (ProdR (λb=>b<wr.heap.size) wr) 5 ps csl)(hf:ProdR (λb=>b<wr.heap.size) wr fcs fp)
  (ho:W.ownsRow base t 5 v (1+ps.length) (fcs++csl.flatten))(hl:ps.length≤60):Prods (λb=>b<W.heap.size) W v (fp::ps):=by
 have hk:∀cs p,ProdR (λb=>b<wr.heap.size) wr cs p->ProdR (λb=>b<W.heap.size) W cs p:=λcs p h=>(h.keep (Keeps.of_below hb)).mono λb h=>Nat.lt_of_lt_of_le h hb.size
 refine prods_own (l:=fp::ps) (csl:=fcs::csl) (by rw[List.length_cons,Nat.add_comm];simpa using ho) ⟨⟨hk _ _ hf,hf.size⟩,hE.imp hk⟩ (by rw[List.length_cons];omega) (λb hb=>(ho.lt b hb).2)
theorem agg3{a a':Bool}{b b' c c':ByteArray}(h:Value.agg #[.bool a,.string b,.string c]= .agg #[.bool a',.string b',.string c']):a=a'∧b=b'∧c=c':=by
 injection h with h;simpa using h
def SawB(p:Prop)(v:Value):Prop:=∃b:Bool,v= .bool b∧(b=true->p)
theorem tkN{P:Program}{ops:Array Oper}{Q:Exit->Act->World->Prop}{md:Region.Mode}{S:World->Prop}{s:Nat}(i:Nat){oi:Oper}{fuel:Nat}{listed:Array Bool}{a:Act}{w:World}(hS:S w)
  (h:wpAnyS P md ops Q S s fuel (listed.setIfInBounds i true) (a.put oi.dst undef) w)(hi:ops[i]? =some oi:=by exact rfl)(hs:Region.noSelect ops=true:=by kernel_rfl)
  (hf:(Region.free md ops listed i&&(Region.ready md ops listed).contains i&&(i !=s))=true:=by kernel_rfl)
  (hg:Region.wanted oi (yielded ops a.tmps)=false:=by kernel_rfl)(hQ:∀c a w,Q (.panic c) (a.put oi.dst undef) w->Q (.panic c) a w:=by exact λ_ _ _ h=>h):wpAnyS P md ops Q S s (fuel+1) listed a w:=
 wpAnyS_take0 hi hs hf hQ (Or.inr ⟨hg,rfl⟩) (Or.inr hS) h
def chainOk(md:Region.Mode)(ops:Array Oper)(listed:Array Bool)(L:List Nat)(i s:Nat):Bool:=
 L.all (λj=>(Region.waitsFor md ops j i||L.any (λk=>Region.waitsFor md ops j k))&& !(listed.getD j true)&&(j !=i))&&L.contains s
theorem wpAnyS_firstC{P:Program}{ops:Array Oper}{Q:Exit->Act->World->Prop}{md:Region.Mode}{S:World->Prop}{s i:Nat}{oi:Oper}{v:Value}(L:List Nat)(hi:ops[i]? =some oi)(hsel:∀(j:Nat)(o:Oper) cs b,ops[j]? =some o->o.op≠ .select cs b)
  (hQ:∀c a w,Q (.panic c) (a.put oi.dst v) w->Q (.panic c) a w)(hL:∀j∈L,j≠i∧∃k,(k=i∨k∈L)∧∃os,ops[j]? =some os∧∃e∈os.after,Region.binds md e=true∧e.on=k)(hsL:s∈L):
  ∀(fuel:Nat)(listed:Array Bool)(a:Act)(w:World),(∀j∈L,listed.getD j true=false)->
   (∀j oj,ops[j]? =some oj->j≠i->listed.getD j true=false->(∀e∈oj.after,Region.binds md e=true->e.on≠i)->oi.apart ops oj=true)->
   i∈Region.ready md ops listed->YieldsIf P ops S oi v a->S w->
   wpAnyS P md ops Q S s fuel (listed.setIfInBounds i true) (a.put oi.dst v) w->wpAnyS P md ops Q S s (fuel+1) listed a w:=by
 intro fuel;have hsi:i≠s:=λe=>(hL s hsL).1 e.symm
 induction fuel with
 |zero=>
  intro listed a w _ _ hr hy hS H;refine⟨λh=>(by rw[h]at hr;cases hr),λj hj=> ?_⟩;by_cases hji:j=i
  ·subst hji;exact hy.wpOp hi hS ⟨Or.inr hS,H⟩
  ·have:=ready_mono hj hji;rw[H.1]at this;cases this
 |succ fuel ih=>
  intro listed a w hls hfree hr hy hS H;refine⟨λh=>(by rw[h]at hr;cases hr),λj hj=> ?_⟩;by_cases hji:j=i
  ·subst hji;exact hy.wpOp hi hS ⟨Or.inr hS,H⟩
  ·have h1:=H.2 j (ready_mono hj hji);obtain⟨hjun,oj,hoj,hall⟩:=mem_ready.1 hj
   have hun:∀k,(k=i∨k∈L)->∀e∈oj.after,Region.binds md e=true->e.on≠k:=λk hk e he hb heq=>by
    have h1:=hall e he hb
    have h0:listed.getD k true=false:=by
     rcases hk with rfl|hk
     ·exact(mem_ready.1 hr).1
     ·exact hls k hk
    rw[heq]at h1;rcases Nat.lt_or_ge k listed.size with h'|h'
    ·simp[h']at h0 h1;rw[h0]at h1;cases h1
    ·simp[Array.getElem?_eq_none h']at h1
   have hnot:∀e∈oj.after,Region.binds md e=true->e.on≠i:=hun i (Or.inl rfl)
   have hjL:j∉L:=λh=>by
    obtain⟨_,k,hk,os,hos,e,he,hb,hon⟩:=hL j h;rw[hos]at hoj;injection hoj with hoj;subst hoj;exact hun k hk e he hb hon
   (have hjs:j≠s:=λe=>hjL (e▸hsL));have h2:=wpOp_putIf hoj (hfree j oj hoj hji hjun hnot) (λcs b=>hsel i oi cs b hi) (λcs b=>hsel j oj cs b hoj) hQ hy h1
   have hfree':∀k ok,ops[k]? =some ok->k≠i->(listed.setIfInBounds j true).getD k true=false->
     (∀e∈ok.after,Region.binds md e=true->e.on≠i)->oi.apart ops ok=true:=λk ok hk hki hun hno=>by
    refine hfree k ok hk hki ?_ hno;by_cases hjk:j=k
    ·subst hjk;exact hjun
    ·rw[getD_set_ne true hjk]at hun;exact hun
   refine wpOp_mono (λa' w' h3=> ?_) h2
   have hS':S w':=by
    rcases h3.2.1 with h|h
    ·rw[getD_set_ne true hjs,getD_set_ne true hsi,hls s hsL]at h;cases h
    ·exact h
   refine⟨Or.inr hS',ih (listed.setIfInBounds j true) a' w' (λk hk=>by
    (have hjk:j≠k:=λe=>hjL (by rw[e];exact hk));rw[getD_set_ne true hjk]
    exact hls k hk) hfree' (ready_mono hr (Ne.symm hji)) h3.1 hS' ?_⟩
   rw[Array.setIfInBounds_comm _ _ hji];exact h3.2.2
theorem tkC{P:Program}{ops:Array Oper}{Q:Exit->Act->World->Prop}{md:Region.Mode}{S:World->Prop}{s:Nat}(i:Nat)(L:List Nat){oi:Oper}(v:Value){fuel:Nat}{listed:Array Bool}{a:Act}{w:World}(hS:S w)(hy:∀w,S w->(execOp a.eval oi).run P w= .ok (.value v) w)
  (h:wpAnyS P md ops Q S s fuel (listed.setIfInBounds i true) (a.put oi.dst v) w)(hi:ops[i]? =some oi:=by exact rfl)(hs:Region.noSelect ops=true:=by kernel_rfl)
  (hf:(Region.free md ops listed i&&(Region.ready md ops listed).contains i&&chainOk md ops listed L i s)=true:=by kernel_rfl)
  (hg:Region.wanted oi (yielded ops a.tmps)=true:=by kernel_rfl)(hQ:∀c a w,Q (.panic c) (a.put oi.dst v) w->Q (.panic c) a w:=by exact λ_ _ _ h=>h):wpAnyS P md ops Q S s (fuel+1) listed a w:=by
 simp only[Bool.and_eq_true]at hf;obtain⟨⟨h1,h2⟩,h3⟩:=hf;unfold chainOk at h3;simp only[Bool.and_eq_true,List.all_eq_true,Bool.or_eq_true,List.any_eq_true,Bool.not_eq_true',bne_iff_ne,List.contains_iff_mem]at h3;obtain⟨h4,h5⟩:=h3;refine wpAnyS_firstC L hi (Region.noSelect_spec hs) hQ (λj hj=>⟨(h4 j hj).2,?_⟩) (by simpa using h5) fuel listed a w (λj hj=>(h4 j hj).1.2) (Region.free_spec hi h1) (by simpa using h2) (Or.inl ⟨hg,hy⟩) hS h;rcases(h4 j hj).1.1 with hw|⟨k,hk,hw⟩
 ·exact⟨i,Or.inl rfl,Region.waitsFor_spec hw⟩
 ·exact⟨k,Or.inr hk,Region.waitsFor_spec hw⟩
def TurnedOk(t:TarD)(l bl:List ProdD)(r:List RateD)(base id:ByteArray)(day:Int):Prop:=
 (valueP t l r base id day).2≠2->(valueP t bl r base id day).2≠2->(controlP t l r base id day).2≠2->(controlP t bl r base id day).2≠2->
  EqR (valueP t l r base id day) (valueP t bl r base id day)∧EqR (controlP t l r base id day) (controlP t bl r base id day)∧shareP t l r base id day=shareP t bl r base id day
theorem ids_nodup{t:TarD}{l:List ProdD}(h:checkP t l=0):(idsP l).Nodup :=by
 obtain⟨-,-,⟨o,c⟩,-⟩:=checkP_ok h;exact c.ids
theorem turned_plain{t:TarD}{l:List ProdD}{r:List RateD}{base id:ByteArray}{day:Int}(h:checkP t l=0):TurnedOk t l (turnL l) r base id day:=by
 obtain⟨o,-,hp⟩:=proper_of h;exact turned_ok h (proper_turn hp).check (alike_turn (ids_nodup h)) (by rw[idsP_turn];simp)
theorem turned_more{t:TarD}{l:List ProdD}{r:List RateD}{base id:ByteArray}{day:Int}{fp:ProdD}(h:checkP t l=0)(h':checkP t (fp::turnL l)=0)(hf:findP l fp.id<0)(hid:id≠fp.id):TurnedOk t l (fp::turnL l) r base id day:=by
 refine turned_ok h h' (alike_cons (alike_turn (ids_nodup h)) (findP_neg.1 hf)) ?_;have e:idsP (fp::turnL l)=fp.id::(idsP l).reverse :=by rw[<-idsP_turn];rfl
 rw[e];simp[hid]
theorem drop_turn{l:List ProdD}{i:Nat}(h:i<l.length):(l.drop i).reverse.map turnP=(l.drop (i+1)).reverse.map turnP++[turnP l[i]]:=by
 rw[List.drop_eq_getElem_cons h,List.reverse_cons,List.map_append];rfl
theorem drop_comp{l:List CompD}{i:Nat}(h:i<l.length):(l.drop i).reverse =(l.drop (i+1)).reverse ++[l[i]]:=by
 rw[List.drop_eq_getElem_cons h];simp
theorem turn_zero(l:List ProdD):(l.drop 0).reverse.map turnP=turnL l:=by unfold turnL;simp
end
def boxId:ByteArray:=⟨#[98,111,120]⟩
def boxP(cas:List Int)(base id:ByteArray)(n:Int):ProdD:=⟨boxId,cas,base,0,[⟨id,n⟩]⟩
theorem box_ident:identS boxId=true:=by decide+kernel
theorem class_fits{t:TarD}{c:List Int}(h:(classT t c).2=0):fits t.dom c=true:=by
 unfold classT at h;split at h
 ·cases h
 rename_i h1;have h1:(validT t&&fits t.dom c)=true:=eq_true_of_ne_false h1;simp only[Bool.and_eq_true]at h1;exact h1.2
theorem mulR_two{a b:Rt}(h:(mulR a b).2≠0):(mulR a b).2=2:=by
 rcases mulR_cases a b with⟨_,_,e⟩|e
 ·rw[e]at h;exact absurd rfl h
 ·rw[e]
structure Wrap (t:TarD) (l bl:List ProdD) (r:List RateD) (base id:ByteArray) (day n:Int):Prop where
 chk:checkP t bl=0
 same:(valueP t bl r base boxId day).2=0->(controlP t bl r base boxId day).2=0->(shareP t bl r base boxId day).2=0->(mulR (ofR n 1) (valueP t l r base id day).1).2=0->(mulR (ofR n 1) (controlP t l r base id day).1).2=0->
  valueP t bl r base boxId day=mulR (ofR n 1) (valueP t l r base id day).1∧controlP t bl r base boxId day=mulR (ofR n 1) (controlP t l r base id day).1∧(shareP t bl r base boxId day).1=(shareP t l r base id day).1
 lim:¬((valueP t bl r base boxId day).2=0∧(controlP t bl r base boxId day).2=0∧(shareP t bl r base boxId day).2=0∧(mulR (ofR n 1) (valueP t l r base id day).1).2=0∧(mulR (ofR n 1) (controlP t l r base id day).1).2=0)->
  (valueP t bl r base boxId day).2=2∨(controlP t bl r base boxId day).2=2∨(shareP t bl r base boxId day).2=2∨(mulR (ofR n 1) (valueP t l r base id day).1).2=2∨(mulR (ofR n 1) (controlP t l r base id day).1).2=2
 val:(valueP t bl r base boxId day).2=0->valueP t bl r base boxId day=mulR (ofR n 1) (valueP t l r base id day).1
theorem wrap_ok{t:TarD}{l:List ProdD}{r:List RateD}{base id:ByteArray}{day n:Int}{cas:List Int}(h:checkP t l=0)(hv:(valueP t l r base id day).2=0)(hc:(controlP t l r base id day).2=0)(hs:(shareP t l r base id day).2=0)(hnb:boxId∉idsP l)
  (hcls:(classT t cas).2=0)(hctl:ctlLine t cas=false)(hn:1≤n∧n≤1000)(hl:l.length<60):Wrap t l (l++[boxP cas base id n]) r base id day n:=by
 obtain⟨b1,b2,b3⟩:=box_vals (base:=base) (r:=r) (day:=day) h hv hc box_ident hnb (class_fits hcls) hcls hctl hn hl;have b1:checkP t (l++[boxP cas base id n])=0:=b1;have b2:valueP t (l++[boxP cas base id n]) r base boxId day=mulR (ofR n 1) (valueP t l r base id day).1∨(valueP t (l++[boxP cas base id n]) r base boxId day).2=2:=b2;have b3:(valueP t (l++[boxP cas base id n]) r base boxId day).2=0->controlP t (l++[boxP cas base id n]) r base boxId day=mulR (ofR n 1) (controlP t l r base id day).1∨(controlP t (l++[boxP cas base id n]) r base boxId day).2=2:=b3;generalize l++[boxP cas base id n]=bl at*
 have hval:(valueP t bl r base boxId day).2=0->valueP t bl r base boxId day=mulR (ofR n 1) (valueP t l r base id day).1:=λh0=>by
  rcases b2 with b2|b2
  ·exact b2
  ·rw[b2]at h0;cases h0
 have hctr:(valueP t bl r base boxId day).2=0->(controlP t bl r base boxId day).2=0->controlP t bl r base boxId day=mulR (ofR n 1) (controlP t l r base id day).1:=λh0 h1=>by
  rcases b3 h0 with b3|b3
  ·exact b3
  ·rw[b3]at h1;cases h1
 refine⟨b1,λw d m x y=>⟨hval w,hctr w d,share_times hn.1 hc d (hval w).symm (hctr w d).symm hs m⟩,λhno=> ?_,hval⟩;by_cases w:(valueP t bl r base boxId day).2=0
 ·by_cases d:(controlP t bl r base boxId day).2=0
  ·by_cases m:(shareP t bl r base boxId day).2=0
   ·exact absurd ⟨w,d,m,by rw[<-hval w];exact w,by rw[<-hctr w d];exact d⟩ hno
   ·exact .inr (.inr (.inl (share_two d m)))
  ·rcases b3 w with e|e
   ·exact .inr (.inl (by rw[e]at d⊢;exact mulR_two d))
   ·exact .inr (.inl e)
 ·rcases b2 with e|e
  ·exact .inl (by rw[e]at w⊢;exact mulR_two w)
  ·exact .inl e
theorem wrap_more{t:TarD}{l bl bl':List ProdD}{r:List RateD}{base id:ByteArray}{day n m:Int}(h:Wrap t l bl r base id day n)(h':Wrap t l bl' r base id day m)(hc:(controlP t l r base id day).2=0)(hnm:n≤m)
  (h1:(valueP t bl r base boxId day).2=0)(h2:(valueP t bl' r base boxId day).2=0)(h3:(cmpR (valueP t bl r base boxId day).1 (valueP t bl' r base boxId day).1).2=0):(cmpR (valueP t bl r base boxId day).1 (valueP t bl' r base boxId day).1).1≤0:=by
 obtain⟨p,hp,hk⟩:=control_ok hc;have e1:=h.val h1;have e2:=h'.val h2;rw[e1]at h1 h3⊢;rw[e2]at h2 h3⊢;exact box_more hk.lowV.den (Rat.le_trans hk.pos hk.le) hnm h1 h2 h3
section
open Go.Shelf
theorem few_len{l:List ProdD}{r:List RateD}(h:fewP l r 10=true):l.length≤10:=by
 unfold fewP at h;simp only[Bool.and_eq_true,decide_eq_true_eq]at h;omega
def FewB(t:TarD)(n:Nat)(w:World)(e:Ending)(w':World):Prop:=∃b:Bool,e= .returned (.bool b)∧Below w.heap.size w w'∧(b=true->t.fine∧n≤10)
theorem small28_few(Z:Zone)(vd vl v vr:Value)(t:TarD)(l:List ProdD)(r:List RateD)(base id:ByteArray)(w:World)(ht:TarR Z w vd vl t)(h:Prods Z w v l)(hr:Rates Z w vr r)(hz:∀b,Z b->b<w.heap.size)(hb1:base.size≤140737488355328)(hb2:id.size≤140737488355328):
  Calls Tryz.prog 5 #[.agg #[vd,vl],v,vr,.string base,.string id] w (FewB t l.length w):=by
 have HF:=hid (λW(hW:Below w.heap.size w W)=>few27_any Z vd vl t W (ht.keep (Keeps.of_below hW)) (λb hb=>Nat.lt_of_lt_of_le (hz b hb) hW.size));have HP:=hid (λW(hW:Below w.heap.size w W)=>few28_any Z Z v vr l r 10 W (h.keep (Keeps.of_below hW)) (hr.keep (Keeps.of_below hW)));obtain⟨A,cap,hv,-,-⟩:=h.form;obtain⟨A2,cap2,hvl⟩:∃A2 cap2,vl= .slice A2 t.lines.length cap2:=by obtain⟨⟨A2,cap2,e,_⟩⟩:=ht.l;exact⟨A2,cap2,e⟩
 obtain⟨A3,cap3,hvd⟩:∃A3 cap3,vd= .slice A3 t.dom.length cap3:=by obtain⟨⟨A3,cap3,e,_⟩,_⟩:=ht.d;exact⟨A3,cap3,e⟩
 obtain⟨A4,cap4,hvr⟩:∃A4 cap4,vr= .slice A4 r.length cap4:=by obtain⟨⟨A4,cap4,e,_⟩,_⟩:=hr;exact⟨A4,cap4,e⟩
 subst hv hvl hvd hvr;have HFW:=hid (@few_len l r);generalize fewP l r 10=fb at*;clear ht h hr hz;generalize t.dom.length=dl at*;generalize t.lines.length=nl at*;generalize r.length=rl at*;generalize l.length=ll at*;have bt:=Blk.new w 27 #[.slice A3 dl cap3,.slice A2 nl cap2];have hb0:=below1 w (.cells #[.slice A3 dl cap3,.slice A2 nl cap2] 27);go_enter Tryz.func5,Tryz.ntmps5
 go_upto_region 1 with fail
 generalize w.alloc (.cells #[.slice A3 dl cap3,.slice A2 nl cap2] 27)=w0 at*;have a0:=bt.at0;have a1:=bt.at1;have al:=bt.lt;have HB0:=hid hb0;clear bt hb0;go_wp2_with fail
 refine(HF.out w0 HB0.out).mono ?_;rintro e w1 ⟨b,rfl,hb,hf⟩;have HE1:=hid (HB0.out.trans (hb.mono HB0.out.size));cases b
 ·clear hb hf a0 a1 al HF;go_wp2_with fail
  go_ret;exact⟨_,rfl,HE1.out,λh=>by cases h⟩
 ·have HFF:=hid (hf rfl);clear hb hf a0 a1 al HF;go_wp2_with fail
  refine(HP.out w1 HE1.out).mono ?_;rintro e w2 ⟨rfl,hw⟩;subst hw;cases fb
  ·(go_wp2_with fail);go_ret;exact⟨_,rfl,HE1.out,λh=>by cases h⟩
  ·by_cases h1:base.size≤60
   ·(go_wp2_with fail);go_ret;exact⟨_,rfl,HE1.out,λ_=>⟨HFF.out,HFW.out (by first|exact rfl|trivial)⟩⟩
   ·(go_wp2_with fail);go_ret;exact⟨_,rfl,HE1.out,λ_=>⟨HFF.out,HFW.out (by first|exact rfl|trivial)⟩⟩
end
section
open Go.Shelf
theorem prods_row{Z:Zone}{w:World}{A:Option Addr}{cap:Nat}{l:List ProdD}(h:Prods Z w (.slice A l.length cap) l):∃csl,EachR (ProdR Z w) 5 l csl∧Row Z w A csl.flatten:=by
 obtain⟨A',cap',e,-,hs⟩:=h.form;injection e with e1 e2 e3;subst e1;obtain⟨csl,h1,h2⟩:=EachR.of_seq (k:=5) (λcs x h=>ProdR.size h) hs;refine⟨csl,h1,λhne=> ?_⟩
 cases l with
 |nil=>
  cases csl with
  |nil=>exact absurd rfl hne
  |cons _ _=>exact h1.elim
 |cons p r=>
  obtain⟨b,off,cs,rfl,hz,-⟩:=hs;exact⟨b,off,rfl,hz,h2 b off rfl⟩
structure BoxF (w W:World) (xb:Nat) (tv bv:Array Value):Prop where
 t:Blk W w.heap.size 27 tv
 x:Blk W xb 42 bv
 lo:w.heap.size<xb
 be:Below w.heap.size w W
theorem BoxF.below{w W W':World}{xb:Nat}{tv bv:Array Value}(h:BoxF w W xb tv bv)(hb:Below W.heap.size W W'):BoxF w W' xb tv bv:=
 ⟨h.t.below hb h.t.lt,h.x.below hb h.x.lt,h.lo,HBEL_trans h.be hb⟩
theorem BoxF.set{w W:World}{xb:Nat}{tv bv:Array Value}(h:BoxF w W xb tv bv)(i:Nat)(v:Value):BoxF w (W.setCell ⟨xb,i,none⟩ v) xb tv (bv.setIfInBounds i v):=by
 have hl:=h.lo;exact⟨h.t.far (p:=⟨xb,i,none⟩) (by show w.heap.size≠xb;omega) v,h.x.set_ i v,h.lo,h.be.setCell (p:=⟨xb,i,none⟩) (by show w.heap.size≤xb;omega) v⟩
def CasOk(Z:Zone)(w:World)(t:TarD)(CA:Option Addr)(n cap:Nat):Prop:=
 n=0∨∃cas:List Int,n=cas.length∧Ints Z w (.slice CA n cap) cas∧(classT t cas).2=0∧ctlLine t cas=false
theorem snoc_prods{Z:Zone}{w wr W:World}{base:Nat}{t:TypeId}{v:Value}{ps:List ProdD}{q:ProdD}{csl:List (List Value)}{qcs:List Value}(hz:∀b,Z b->b<w.heap.size)(hw:Below w.heap.size w wr)(hb:Below wr.heap.size wr W)(hE:EachR (ProdR Z w) 5 ps csl)
  (hq:ProdR (λb=>b<wr.heap.size) wr qcs q)(ho:W.ownsRow base t 5 v (ps.length+1) (csl.flatten++qcs))(hl:ps.length≤60):Prods (λb=>b<W.heap.size) W v (ps++[q]):=by
 refine prods_own (l:=ps++[q]) (csl:=csl++[qcs]) (by simpa using ho) ((hE.imp λcs p h=> ?_).append (EachR.one ?_ hq.size)) (by rw[List.length_append,List.length_singleton];omega) (λb hb=>(ho.lt b hb).2)
 ·exact(h.keep (Keeps.of_below (HBEL_trans hw hb))).mono λb h=>Nat.lt_of_lt_of_le (hz b h) (HBEL_trans hw hb).size
 ·exact(hq.keep (Keeps.of_below hb)).mono λb h=>Nat.lt_of_lt_of_le h hb.size
theorem comp_one{W:World}{g:Nat}{id:ByteArray}{n:Int}(h:Blk W g 51 #[.string id,.int .i64 n])(hid:id.size≤140737488355328)(hn:I64 n):Comps (λb=>b<W.heap.size) W (.slice (some ⟨g,0,none⟩) 1 1) [⟨id,n⟩]:=
 comps_own (l:=[⟨id,n⟩]) (own_full h (Nat.le_refl _) (by decide) rfl) (λc hc=>by rw[List.mem_singleton.1 hc];exact⟨hid,hn⟩) (by simp) (λb hb=>by injection hb with hb;subst hb;exact h.lt)
theorem line_at'{Z:Zone}{w:World}{A:Option Addr}{l:List LineD}(hs:SeqR (LineR Z w) 7 Z w l A)(hz:∀b,Z b->b<w.heap.size){k:Nat}(hk:k<l.length):
  ∃pb poff,A=some ⟨pb,poff,none⟩∧∀W,Below w.heap.size w W->W.cell? ⟨pb,poff+k*7+6,none⟩=some (.bool l[k].ctl):=by
 obtain⟨b,off,cs,rfl,hzb,hc,hr⟩:=hs.at_ hk;obtain⟨LA,lcap,rfl,-⟩:=hr.form;exact⟨b,off,rfl,λW hW=>cells_below hW (hz b hzb) hc 6 _ rfl⟩
theorem ctl_line'{t:TarD}{c:List Int}(h:lineOf t c<t.lines.length):ctlLine t c=t.lines[lineOf t c].ctl :=by
 unfold ctlLine;rw[List.getElem?_eq_getElem h]
theorem own_setN{w:World}{base size:Nat}{e:TypeId}{g n cap:Nat}{xs:List Value}(h:w.ownsRow base e size (.slice (some ⟨g,0,none⟩) n cap) n xs)(j:Nat)(u:Value):
  (w.setCell ⟨g,j,none⟩ u).ownsRow base e size (.slice (some ⟨g,0,none⟩) n cap) n (xs.set j u):=by
 refine⟨by simpa using h.1,?_⟩;rcases h.2 with⟨h,_⟩|⟨g',cap',cur,e',hb,hg,h1,h2,h3,h4⟩
 ·cases h
 ·injection e' with e1 e2 e3;injection e1 with e1;injection e1 with e1;subst e1 e3;refine Or.inr ⟨g,cap,cur.setIfInBounds j u,rfl,hb,?_,h1,h2,by simpa using h3,?_⟩
  ·have:Blk w g e cur:=hg;exact this.set_ j u
  ·rw[<-h4];simp only[Array.toList_setIfInBounds,List.take_set]
theorem own_cellN{w:World}{base size:Nat}{e:TypeId}{g n cap:Nat}{xs:List Value}(h:w.ownsRow base e size (.slice (some ⟨g,0,none⟩) n cap) n xs){j:Nat}{u:Value}(hu:xs[j]? =some u):w.cell? ⟨g,j,none⟩=some u∧w.frozen? ⟨g,j,none⟩=false:=by
 have:=h.cells (g:=g) rfl j u hu;rw[show(⟨g,0,none⟩:Addr).add j=⟨g,j,none⟩ from by unfold Addr.add;split<;>simp_all]at this;refine⟨this,?_⟩;rcases h.2 with⟨h,_⟩|⟨g',cap',cur,e',hb,hg,_⟩
 ·cases h
 ·injection e' with e1 e2 e3;injection e1 with e1;injection e1 with e1;subst e1;exact Blk.frozen (show Blk w g e cur from hg) j
theorem last_cell{xs:List Value}{n:Nat}{a b c d e:Value}(h:xs.length=n*5):(xs++[a,b,c,d,e])[n*5+4]? =some e∧∀u,(xs++[a,b,c,d,e]).set (n*5+4) u=xs++[a,b,c,d,u]:=by
 refine⟨?_,λu=> ?_⟩
 ·rw[List.getElem?_append_right (by omega),h];simp
 ·rw[List.set_append_right _ _ (by omega),h];simp
theorem wpList_neSame{ops:Array Oper}{rest:List Oper}{o:Oper}{a:Act}{w:World}{Q:Exit->Act->World->Prop}(hgd:Region.wanted o (yielded ops a.tmps)=true)(x y:Operand)(ho:o.op= .binOp .neq 53 x y 53)(b0:Bool)(b1 b2:ByteArray)
  (hx:a.eval x= .agg #[.bool b0,.string b1,.string b2])(hy:a.eval y= .agg #[.bool b0,.string b1,.string b2])
  (h:wpList Tryz.prog ops Q rest (a.put o.dst (.bool false)) w):wpList Tryz.prog ops Q (o::rest) a w:=
 BigFrame.wpList_want hgd λK hK=>by
  have h1:(eqGuard .neq 53 x y (.agg #[.bool b0,.string b1,.string b2]) (.agg #[.bool b0,.string b1,.string b2])).run Tryz.prog w= .ok () w:=run_eqGuard_agg w .neq 53 x y _ _ (by kernel_rfl)
  have h2:(binOp .neq 53 (.agg #[.bool b0,.string b1,.string b2]) (.agg #[.bool b0,.string b1,.string b2])).run Tryz.prog w= .ok (.bool false) w:=by
   (have e:∀z:ByteArray,(z==z)=true:=λz=>(MapKept.bytes_beq _ _).2 rfl);rw[run_neq_struct,run_eql_rat,e,e];simp
  unfold Oper.wp execOp;simp only[ho,hx,hy,Sem.run_bind,h1,h2,Result.andThen_ok,Sem.run_pure];exact hK _ _ h
end
section
open Go.ChangeShapes Go.WideShapes Go.ChangeAt
section args
variable {H:Type} {enc:TypeId × Value->H} {W:World} {v:Value} {d:DataW H} {ps:List MemPlace} {base:Nat}
theorem bounds_u16{n:Int}(h:(Lit.int .u16 n).wf =true):0≤n∧n≤65535:=by
 simp[Lit.wf,IntKind.min,IntKind.max,IntKind.signed,IntKind.bits]at h;omega
theorem arg_u16(hv:Value.okWide Tryz.prog W .any base 30 v)(ht:DataW.Trod enc Tryz.prog W 0 (λ_=>true) true 30 v d ps)(_hw:RdFits Tryz.prog 30 d):∃n,v= .int .u16 n∧(0≤n∧n≤65535):=by
 obtain⟨n,rfl⟩:=okWide_int Tryz.underlying30 hv;obtain⟨fuel,hf⟩:=ht;obtain⟨n',e,-,h⟩:=DataW.trod_int Tryz.underlying30 hf;exact⟨n',by simpa[Value.cells]using e,bounds_u16 h⟩
end args
end
end Go.Proofs.YtimmfbnjndndlaaGreatDoor
