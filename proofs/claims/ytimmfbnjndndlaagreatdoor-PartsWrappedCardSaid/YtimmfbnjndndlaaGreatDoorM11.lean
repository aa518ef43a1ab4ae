/- Texts OP RS PD RI RK. -/
import Derived.Test.YtimmfbnjndndlaaGreatDoorM3
import Derived.ChangeArms
import Derived.SizedLaws
import Derived.Deep.Slices
import Derived.OpenShut
import Derived.OrdersHeld
import Derived.StillTail
import Derived.Deep.RegionHeld3
import Derived.OrdersIn
import Derived.RangeFuncCalls
import Derived.TacticsIn
set_option linter.all false
namespace Go.Proofs.YtimmfbnjndndlaaGreatDoor
open Go.RowKit
section
open Go.ChangeShapes Go.Deep
section op
variable {H:Type} {enc:TypeId × Value->H} {P:Program} {w:World} {held:Bool}
def Here(w:World):Zone:=λb=>b<w.heap.size
abbrev RdFits{H:Type}(P:Program)(t:TypeId)(d:DataW H):Prop:=(d.weights P t).all (· ≤reachBytes)=true
theorem weightsAll_mem'{e:TypeId}:∀{l:List (DataW H)}{d:DataW H},d∈l->∀n∈d.weights P e,n∈DataW.weightsAll P e l
 |d'::r,d,hd,n,hn=>by
  simp only[DataW.weightsAll,List.mem_append];rcases List.mem_cons.1 hd with rfl|h
  ·exact Or.inl hn
  ·exact Or.inr (weightsAll_mem' h n hn)
theorem rd_elem{t e:TypeId}{elems spare:List (DataW H)}(ht:P.underlying t=some (.slice e))(h:RdFits P t (.slice elems spare)){d:DataW H}(hd:d∈elems):RdFits P e d:=by
 refine List.all_eq_true.2 λn hn=>List.all_eq_true.1 h n ?_
 simp only[DataW.weights,ht,List.mem_cons,List.mem_append];exact Or.inr (Or.inl (weightsAll_mem' hd n hn))
theorem rd_len{t e:TypeId}{elems spare:List (DataW H)}(ht:P.underlying t=some (.slice e))(h:RdFits P t (.slice elems spare)):(elems.length+spare.length)*P.bytesOf e≤reachBytes:=
 of_decide_eq_true (List.all_eq_true.1 h _ (by simp only[DataW.weights,ht,List.mem_cons];exact Or.inl trivial))
theorem rd_part{t:TypeId}{fs:Array Field}{parts:List (DataW H)}(ht:P.underlying t=some (.struct fs))(h:RdFits P t (.agg parts)){j:Nat}{f:Field}{d:DataW H}(hf:fs[j]? =some f)(hd:parts[j]? =some d):RdFits P f.type d:=by
 refine List.all_eq_true.2 λn hn=>List.all_eq_true.1 h n ?_
 simp only[DataW.weights,ht];exact DataW.weights_mem_each (j:=j) (by simpa using congrArg (Option.map (·.type)) hf) hd n hn
theorem rd_string{t:TypeId}{l:List UInt8}(h:RdFits P t (.lit (.string l):DataW H)):l.length≤reachBytes:=
 of_decide_eq_true (List.all_eq_true.1 h _ (by simp[DataW.weights]))
theorem rd_seq_of{α:Type}{R:List Value->α->Prop}{k:Nat}{Z:Zone}{b:Nat}(hz:Z b):∀(n off:Nat),(∀i,i<n->∃cs a,(∀j u,cs[j]? =some u->w.cell? ⟨b,off+i*k+j,none⟩=some u)∧R cs a)->
  ∃l:List α,l.length=n∧SeqR R k Z w l (some ⟨b,off,none⟩)
 |0,_,_=>⟨[],rfl,trivial⟩
 |n+1,off,h=>by
  obtain⟨cs,a,h1,h2⟩:=h 0 (by omega)
  obtain⟨l,hl,hs⟩:=rd_seq_of hz n (off+k) (λi hi=>by
   obtain⟨cs,a,h1,h2⟩:=h (i+1) (by omega);refine⟨cs,a,λj u hu=> ?_,h2⟩;have:=h1 j u hu
   rwa[show off+(i+1)*k+j=off+k+i*k+j from by rw[Nat.add_mul];omega]at this)
  exact⟨a::l,by simp[hl],b,off,cs,rfl,hz,λj u hu=>by simpa using h1 j u hu,h2,hs⟩
theorem op_seq{α:Type}{R:List Value->α->Prop}{t e:TypeId}{k fuel:Nat}{cs:List Value}{x:DataW H × List MemPlace}(hk:0<k)(ht:P.underlying t=some (.slice e))(hc:P.cellsOf e=k)
  (h:DataW.trod enc P w 0 (λ_=>true) held fuel t cs=some x)(hw:RdFits P t x.1)
  (hel:∀m cs y,m<fuel->cs.length=k->DataW.trod enc P w 0 (λ_=>true) held m e cs=some y->RdFits P e y.1->∃a,R cs a):
  ∃(l:List α)(A:Option Addr)(cap:Nat),cs=[.slice A l.length cap]∧l.length≤cap∧cap≤maxLen∧cap*P.bytesOf e≤reachBytes∧SeqR R k (Here w) w l A:=by
 rcases DataW.trod_slice ht h with⟨rfl,rfl⟩|⟨a,len,cap,elems,rest,n,rfl,rfl,rfl,-,hl,hm,hlen,hx,hsp,-⟩
 ·exact⟨[],none,0,rfl,Nat.le_refl _,by simp,by simp,trivial⟩
 have hr:=(hsp rfl).1;have hb:=rd_len ht hw;rw[List.length_map,List.length_map,hlen,hr,show len+(cap-len)=cap from by omega]at hb
 have hall:∀i,i<len->∃cs a',(∀j u,cs[j]? =some u->w.cell? (a.add (i*k+j))=some u)∧R cs a'∧cs.length=k:=by
  intro i hi;have h1:=hx i hi;rw[hc]at h1;have hi':i<elems.length:=by omega
  rw[List.getElem?_eq_getElem hi',Option.bind_eq_some_iff]at h1;obtain⟨cs',h2,h3⟩:=h1;obtain⟨-,h4,h5⟩:=World.cells?_some h2;obtain⟨a',h6⟩:=hel n cs' _ (by omega) h4 h3 (rd_elem ht hw (List.mem_map.2 ⟨_,List.getElem_mem hi',rfl⟩));refine⟨cs',a',λj u hu=> ?_,h6,h4⟩
  have hj:j<k:=by
   rcases Nat.lt_or_ge j cs'.length with h|h
   ·omega
   ·rw[List.getElem?_eq_none h]at hu;cases hu
  rw[<-add_add,h5 j hj,hu]
 rcases Nat.eq_zero_or_pos len with rfl|hp
 ·exact⟨[],some a,cap,rfl,hl,hm,hb,trivial⟩
 obtain⟨b,off,spot⟩:=a;obtain⟨cs0,a0,h1,-,h2⟩:=hall 0 hp;have hc0:=h1 0 (cs0[0]'(by omega)) (List.getElem?_eq_getElem _);simp only[Nat.zero_mul,Nat.add_zero]at hc0;obtain rfl:spot=none:=by simpa[Addr.add]using World.cell?_spot hc0
 have hlt:b<w.heap.size:=by simpa[Addr.add]using lt_of_cell hc0
 obtain⟨l,hll,hs⟩:=rd_seq_of (R:=R) (k:=k) (w:=w) (Z:=Here w) (b:=b) hlt len off (λi hi=>by
  obtain⟨cs',a',h1,h2,-⟩:=hall i hi
  exact⟨cs',a',λj u hu=>by have:=h1 j u hu;rw[Go.WideShapes.add_plain]at this;rwa[Nat.add_assoc],h2⟩)
 exact⟨l,some ⟨b,off,none⟩,cap,by rw[hll],by omega,hm,hb,hs⟩
theorem rd_row_of_seq{Z:Zone}:∀{l:List Value}{A:Option Addr},SeqR (λcs v=>cs=[v]) 1 Z w l A->Row Z w A l
 |[],_,_=>Row.nil
 |v::l,A,h=>λ_=>by
  have h0:=h;obtain⟨b,off,cs,e,hz,hc,h1,h2⟩:=h;refine⟨b,off,e,hz,λj u hu=> ?_⟩
  have hj:j<(v::l).length :=by
   rcases Nat.lt_or_ge j (v::l).length with h|h
   ·exact h
   ·rw[List.getElem?_eq_none h]at hu;cases hu
  obtain⟨b',off',cs',e',hz',hc',h1'⟩:=SeqR.at_ h0 hj;subst e;injection e' with e';injection e' with eb eo;subst eb eo;have:=hc' 0 u (by rw[h1'];rw[List.getElem?_eq_getElem hj]at hu;simpa using hu);simpa using this
theorem i64_of_wf{n:Int}(h:(Lit.int .i64 n).wf =true):I64 n:=by
 have:=bounds_i64 h;exact this
theorem op_ints{t e:TypeId}{fuel:Nat}{cs:List Value}{x:DataW H × List MemPlace}(ht:P.underlying t=some (.slice e))(he:P.underlying e=some (.int .i64))(hc:P.cellsOf e=1)(hb:P.bytesOf e=8)
  (h:DataW.trod enc P w 0 (λ_=>true) held fuel t cs=some x)(hw:RdFits P t x.1):∃v xs,cs=[v]∧Ints (Here w) w v xs:=by
 obtain⟨l,A,cap,rfl,h1,h2,h3,h4⟩:=op_seq (R:=λcs(n:Int)=>cs=[.int .i64 n]∧I64 n) (Nat.zero_lt_one) ht hc h hw (λm cs y _ _ hy _=>by
  obtain⟨n,rfl,-,hn⟩:=DataW.trod_int he hy
  exact⟨n,rfl,i64_of_wf hn⟩)
 rw[hb]at h3;have hr:reachBytes=140737488351232:=rfl;rw[hr]at h3;refine⟨_,l,rfl,⟨A,cap,rfl,h1,by simpa[maxLen]using h2,by omega,?_⟩,?_⟩
 ·clear h1
  have:∀(l:List Int)(A:Option Addr),SeqR (λcs(n:Int)=>cs=[.int .i64 n]∧I64 n) 1 (Here w) w l A->SeqR (λcs v=>cs=[v]) 1 (Here w) w (l.map (.int .i64)) A:=by
   intro l
   induction l with
   |nil=>intro A _;exact trivial
   |cons n l ih=>intro A ⟨b,off,cs,e,hz,hc,h1,h2⟩;exact⟨b,off,cs,e,hz,hc,h1.1,ih _ h2⟩
  exact rd_row_of_seq (this _ _ h4)
 ·intro n hn;obtain⟨i,hi,rfl⟩:=List.getElem_of_mem hn;obtain⟨_,_,_,_,_,_,h⟩:=SeqR.at_ h4 hi;exact h.2
theorem op_field{t:TypeId}{fs:Array Field}{fuel:Nat}{cs:List Value}{x:DataW H × List MemPlace}(ht:P.underlying t=some (.struct fs))(h:DataW.trod enc P w 0 (λ_=>true) held fuel t cs=some x)(hw:RdFits P t x.1):
  cs.length=P.cellsOf t∧∀(j:Nat)(f:Field),fs[j]? =some f->∃m y,m<fuel∧DataW.trod enc P w 0 (λ_=>true) held m f.type ((cs.drop f.offset).take (P.cellsOf f.type))=some y∧RdFits P f.type y.1:=by
 obtain⟨xs,n,rfl,rfl,hl,hlen,hf⟩:=DataW.trod_struct ht h;refine⟨hl,λj f hj=> ?_⟩;have h1:=hf j f hj
 have hlt:j<xs.length:=by
  rw[hlen];rcases Nat.lt_or_ge j fs.size with h|h
  ·exact h
  ·rw[Array.getElem?_eq_none h]at hj;cases hj
 rw[List.getElem?_eq_getElem hlt]at h1;exact⟨n,_,by omega,h1,rd_part ht hw hj (by simp[hlt])⟩
structure Tys (P:Program) (tInt tStr tBool tInts tFact tFacts tNode tNodes tFm tFms:TypeId):Prop where
 int:P.underlying tInt=some (.int .i64)
 intc:P.cellsOf tInt=1
 intb:P.bytesOf tInt=8
 str:P.underlying tStr=some .string
 strc:P.cellsOf tStr=1
 bool:P.underlying tBool=some .bool
 boolc:P.cellsOf tBool=1
 ints:P.underlying tInts=some (.slice tInt)
 intsc:P.cellsOf tInts=1
 fact:∃f0 f1 f2 f3,P.underlying tFact=some (.struct #[f0,f1,f2,f3])∧(f0.type=tStr∧f0.offset=0)∧(f1.type=tInt∧f1.offset=1)∧(f2.type=tInt∧f2.offset=2)∧(f3.type=tInt∧f3.offset=3)
 factc:P.cellsOf tFact=4
 factb:P.bytesOf tFact=40
 facts:P.underlying tFacts=some (.slice tFact)
 factsc:P.cellsOf tFacts=1
 node:∃f0 f1 f2 f3,P.underlying tNode=some (.struct #[f0,f1,f2,f3])∧(f0.type=tBool∧f0.offset=0)∧(f1.type=tInt∧f1.offset=1)∧(f2.type=tInts∧f2.offset=2)∧(f3.type=tInts∧f3.offset=3)
 nodec:P.cellsOf tNode=4
 nodeb:P.bytesOf tNode=64
 nodes:P.underlying tNodes=some (.slice tNode)
 nodesc:P.cellsOf tNodes=1
 fm:∃f0 f1 f2 f3 f4,P.underlying tFm=some (.struct #[f0,f1,f2,f3,f4])∧(f0.type=tInt∧f0.offset=0)∧(f1.type=tStr∧f1.offset=1)∧(f2.type=tInt∧f2.offset=2)∧(f3.type=tInt∧f3.offset=3)∧(f4.type=tFms∧f4.offset=4)
 fmc:P.cellsOf tFm=5
 fmb:P.bytesOf tFm=64
 fms:P.underlying tFms=some (.slice tFm)
 fmsc:P.cellsOf tFms=1
theorem reach_is:reachBytes=140737488351232:=rfl
theorem op_int{t:TypeId}{m:Nat}{v:Value}{y:DataW H × List MemPlace}(ht:P.underlying t=some (.int .i64))(h:DataW.trod enc P w 0 (λ_=>true) held m t [v]=some y):∃n,v= .int .i64 n∧I64 n:=by
 obtain⟨n,e,-,hn⟩:=DataW.trod_int ht h;exact⟨n,by simpa using e,i64_of_wf hn⟩
theorem op_str{t:TypeId}{m:Nat}{v:Value}{y:DataW H × List MemPlace}(ht:P.underlying t=some .string)(h:DataW.trod enc P w 0 (λ_=>true) held m t [v]=some y)(hw:RdFits P t y.1):∃s:ByteArray,v= .string s∧s.size≤140737488355328:=by
 obtain⟨s,e,rfl,-⟩:=DataW.trod_string ht h;have:=rd_string hw;rw[reach_is]at this;have e2:s.size=s.data.toList.length:=by rw[Array.length_toList];rfl
 exact⟨s,List.singleton_inj.1 e,by omega⟩
theorem op_bool{t:TypeId}{m:Nat}{v:Value}{y:DataW H × List MemPlace}(ht:P.underlying t=some .bool)(h:DataW.trod enc P w 0 (λ_=>true) held m t [v]=some y):∃b:Bool,v= .bool b:=by
 obtain⟨b,e,-⟩:=DataW.trod_bool ht h;exact⟨b,by simpa using e⟩
variable {tInt tStr tBool tInts tFact tFacts tNode tNodes tFm tFms:TypeId}
theorem op_ints'(T:Tys P tInt tStr tBool tInts tFact tFacts tNode tNodes tFm tFms){m:Nat}{v:Value}{y:DataW H × List MemPlace}(h:DataW.trod enc P w 0 (λ_=>true) held m tInts [v]=some y)(hw:RdFits P tInts y.1):∃xs,Ints (Here w) w v xs:=by
 obtain⟨v',xs,e,h⟩:=op_ints T.ints T.int T.intc T.intb h hw;obtain rfl:v=v':=by simpa using e
 exact⟨xs,h⟩
theorem op_facts(T:Tys P tInt tStr tBool tInts tFact tFacts tNode tNodes tFm tFms){m:Nat}{v:Value}{y:DataW H × List MemPlace}(h:DataW.trod enc P w 0 (λ_=>true) held m tFacts [v]=some y)(hw:RdFits P tFacts y.1):∃xs,Facts (Here w) w v xs:=by
 obtain⟨l,A,cap,e,h1,h2,h3,h4⟩:=op_seq (R:=λcs(f:FactD)=>cs=FactD.cells f∧f.fit) (by decide) T.facts T.factc h hw (λm cs y _ hl hy hw=>by
  obtain⟨f0,f1,f2,f3,hf,⟨t0,o0⟩,⟨t1,o1⟩,⟨t2,o2⟩,⟨t3,o3⟩⟩:=T.fact;obtain⟨-,hp⟩:=op_field hf hy hw
  match cs,hl with
  |[c0,c1,c2,c3],_=>
   obtain⟨m0,y0,-,q0,w0⟩:=hp 0 f0 rfl;obtain⟨m1,y1,-,q1,w1⟩:=hp 1 f1 rfl;obtain⟨m2,y2,-,q2,w2⟩:=hp 2 f2 rfl;obtain⟨m3,y3,-,q3,w3⟩:=hp 3 f3 rfl;rw[t0,o0,T.strc]at q0;rw[t0]at w0;rw[t1,o1,T.intc]at q1;rw[t2,o2,T.intc]at q2;rw[t3,o3,T.intc]at q3;obtain⟨s,rfl,hs⟩:=op_str T.str q0 w0;obtain⟨n1,rfl,i1⟩:=op_int T.int q1;obtain⟨n2,rfl,i2⟩:=op_int T.int q2;obtain⟨n3,rfl,i3⟩:=op_int T.int q3
   exact⟨⟨s,n1,n2,n3⟩,rfl,hs,i1,i2,i3⟩)
 rw[T.factb,reach_is]at h3;obtain rfl:v=_:=by simpa using e
 refine⟨l,⟨A,cap,rfl,h1,by simpa[maxLen]using h2,by omega,h4.imp (λ_ _ h=>h.1) (Keeps.refl _ _) (λ_ h=>h)⟩,λx hx=> ?_⟩;obtain⟨i,hi,rfl⟩:=List.getElem_of_mem hx;obtain⟨_,_,_,_,_,_,h⟩:=SeqR.at_ h4 hi;exact h.2
theorem op_node(T:Tys P tInt tStr tBool tInts tFact tFacts tNode tNodes tFm tFms){m:Nat}{cs:List Value}{y:DataW H × List MemPlace}(hl:cs.length=4)(hy:DataW.trod enc P w 0 (λ_=>true) held m tNode cs=some y)(hw:RdFits P tNode y.1):∃n,NodeR (Here w) w cs n:=by
 obtain⟨f0,f1,f2,f3,hf,⟨t0,o0⟩,⟨t1,o1⟩,⟨t2,o2⟩,⟨t3,o3⟩⟩:=T.node;obtain⟨-,hp⟩:=op_field hf hy hw
 match cs,hl with
 |[c0,c1,c2,c3],_=>
  obtain⟨m0,y0,-,q0,w0⟩:=hp 0 f0 rfl;obtain⟨m1,y1,-,q1,w1⟩:=hp 1 f1 rfl;obtain⟨m2,y2,-,q2,w2⟩:=hp 2 f2 rfl;obtain⟨m3,y3,-,q3,w3⟩:=hp 3 f3 rfl;rw[t0,o0,T.boolc]at q0;rw[t1,o1,T.intc]at q1;rw[t2,o2,T.intsc]at q2;rw[t3,o3,T.intsc]at q3;rw[t2]at w2;rw[t3]at w3;obtain⟨b,rfl⟩:=op_bool T.bool q0;obtain⟨n1,rfl,i1⟩:=op_int T.int q1;obtain⟨xs,i2⟩:=op_ints' T q2 w2;obtain⟨ys,i3⟩:=op_ints' T q3 w3;exact⟨⟨b,n1,xs,ys⟩,_,_,rfl,i1,i2,i3⟩
theorem op_nodes(T:Tys P tInt tStr tBool tInts tFact tFacts tNode tNodes tFm tFms){m:Nat}{v:Value}{y:DataW H × List MemPlace}(h:DataW.trod enc P w 0 (λ_=>true) held m tNodes [v]=some y)(hw:RdFits P tNodes y.1):∃ns,Nodes (Here w) w v ns:=by
 obtain⟨l,A,cap,e,h1,h2,h3,h4⟩:=op_seq (R:=NodeR (Here w) w) (by decide) T.nodes T.nodec h hw (λm cs y _ hl hy hw=>op_node T hl hy hw);rw[T.nodeb,reach_is]at h3;obtain rfl:v=_:=by simpa using e
 exact⟨l,A,cap,rfl,h1,by simpa[maxLen]using h2,by omega,h4⟩
theorem op_fm(T:Tys P tInt tStr tBool tInts tFact tFacts tNode tNodes tFm tFms):∀(m:Nat)(cs:List Value)(y:DataW H × List MemPlace),cs.length=5->DataW.trod enc P w 0 (λ_=>true) held m tFm cs=some y->RdFits P tFm y.1->∃f,FmR (Here w) w f cs:=by
 intro m
 induction m using Nat.strongRecOn with
 |ind m ih=>
  intro cs y hl hy hw;obtain⟨f0,f1,f2,f3,f4,hf,⟨t0,o0⟩,⟨t1,o1⟩,⟨t2,o2⟩,⟨t3,o3⟩,⟨t4,o4⟩⟩:=T.fm;obtain⟨-,hp⟩:=op_field hf hy hw
  match cs,hl with
  |[c0,c1,c2,c3,c4],_=>
   obtain⟨m0,y0,-,q0,w0⟩:=hp 0 f0 rfl;obtain⟨m1,y1,-,q1,w1⟩:=hp 1 f1 rfl;obtain⟨m2,y2,-,q2,w2⟩:=hp 2 f2 rfl;obtain⟨m3,y3,-,q3,w3⟩:=hp 3 f3 rfl;obtain⟨m4,y4,lt4,q4,w4⟩:=hp 4 f4 rfl;rw[t0,o0,T.intc]at q0;rw[t1,o1,T.strc]at q1;rw[t2,o2,T.intc]at q2;rw[t3,o3,T.intc]at q3;rw[t4,o4,T.fmsc]at q4;rw[t1]at w1;rw[t4]at w4;obtain⟨n0,rfl,i0⟩:=op_int T.int q0;obtain⟨s,rfl,hs⟩:=op_str T.str q1 w1;obtain⟨n2,rfl,i2⟩:=op_int T.int q2;obtain⟨n3,rfl,i3⟩:=op_int T.int q3;obtain⟨l,A,cap,e,h1,h2,h3,h4⟩:=op_seq (R:=λcs f=>FmR (Here w) w f cs) (by decide) T.fms T.fmc q4 w4 (λm' cs y hm hl hy hw=>ih m' (by omega) cs y hl hy hw);rw[T.fmb,reach_is]at h3;(obtain rfl:c4=_:=by simpa using e);refine⟨.mk n0 s n2 n3 l,?_⟩;unfold FmR;exact⟨i0,hs,i2,i3,A,cap,rfl,h1,by simpa[maxLen]using h2,by omega,FmsR.of_seq h4⟩
end op
end
section
variable {P:Program} {ops:Array Oper} {Q:Exit->Act->World->Prop} {md:Region.Mode} {S:World->Prop} {s:Nat}
def wpAnyS(P:Program)(md:Region.Mode)(ops:Array Oper)(Q:Exit->Act->World->Prop)(S:World->Prop)(s:Nat):Nat->Array Bool->Act->World->Prop
 |0,listed,a,w=>Region.ready md ops listed=[]∧Q .normal a w
 |fuel+1,listed,a,w=>
  (Region.ready md ops listed=[]->Q .normal a w)∧
  ∀i∈Region.ready md ops listed,wpOp P ops Q i (λa' w'=>((listed.setIfInBounds i true).getD s true=true∨S w')∧wpAnyS P md ops Q S s fuel (listed.setIfInBounds i true) a' w') a w
theorem wpAny_of_S:∀(fuel:Nat)(listed:Array Bool)(a:Act)(w:World),wpAnyS P md ops Q S s fuel listed a w->wpAny P md ops Q fuel listed a w
 |0,_,_,_,h=>h
 |fuel+1,_,_,_,h=>⟨h.1,λi hi=>wpOp_mono (λa' w' h'=>wpAny_of_S fuel _ a' w' h'.2) (h.2 i hi)⟩
theorem wpAnyS_first{i:Nat}{oi:Oper}{v:Value}(hi:ops[i]? =some oi)(hsel:∀(j:Nat)(o:Oper) cs b,ops[j]? =some o->o.op≠ .select cs b)
  (hQ:∀c a w,Q (.panic c) (a.put oi.dst v) w->Q (.panic c) a w)(hwait:∃os,ops[s]? =some os∧∃e∈os.after,Region.binds md e=true∧e.on=i)(hsi:i≠s):
  ∀(fuel:Nat)(listed:Array Bool)(a:Act)(w:World),listed.getD s true=false->
   (∀j oj,ops[j]? =some oj->j≠i->listed.getD j true=false->(∀e∈oj.after,Region.binds md e=true->e.on≠i)->oi.apart ops oj=true)->
   i∈Region.ready md ops listed->YieldsIf P ops S oi v a->S w->
   wpAnyS P md ops Q S s fuel (listed.setIfInBounds i true) (a.put oi.dst v) w->wpAnyS P md ops Q S s (fuel+1) listed a w:=by
 intro fuel
 induction fuel with
 |zero=>
  intro listed a w _ _ hr hy hS H;refine⟨λh=>(by rw[h]at hr;cases hr),λj hj=> ?_⟩;by_cases hji:j=i
  ·subst hji;exact hy.wpOp hi hS ⟨Or.inr hS,H⟩
  ·have:=ready_mono hj hji;rw[H.1]at this;cases this
 |succ fuel ih=>
  intro listed a w hls hfree hr hy hS H;refine⟨λh=>(by rw[h]at hr;cases hr),λj hj=> ?_⟩;by_cases hji:j=i
  ·subst hji;exact hy.wpOp hi hS ⟨Or.inr hS,H⟩
  ·have h1:=H.2 j (ready_mono hj hji);obtain⟨hjun,oj,hoj,hall⟩:=mem_ready.1 hj
   have hnot:∀e∈oj.after,Region.binds md e=true->e.on≠i:=λe he hb heq=>by
    have h1:=hall e he hb;have h0:=(mem_ready.1 hr).1;rw[heq]at h1;rcases Nat.lt_or_ge i listed.size with h'|h'
    ·simp[h']at h0 h1;rw[h0]at h1;cases h1
    ·simp[Array.getElem?_eq_none h']at h1
   have hjs:j≠s:=λe=>by
    subst e;obtain⟨os,hos,e,he,hb,hon⟩:=hwait;rw[hos]at hoj;injection hoj with hoj;subst hoj;exact hnot e he hb hon
   have h2:=wpOp_putIf hoj (hfree j oj hoj hji hjun hnot) (λcs b=>hsel i oi cs b hi) (λcs b=>hsel j oj cs b hoj) hQ hy h1
   have hfree':∀k ok,ops[k]? =some ok->k≠i->(listed.setIfInBounds j true).getD k true=false->
     (∀e∈ok.after,Region.binds md e=true->e.on≠i)->oi.apart ops ok=true:=λk ok hk hki hun hno=>by
    refine hfree k ok hk hki ?_ hno;by_cases hjk:j=k
    ·subst hjk;exact hjun
    ·rw[getD_set_ne true hjk]at hun;exact hun
   refine wpOp_mono (λa' w' h3=> ?_) h2
   have hS':S w':=by
    rcases h3.2.1 with h|h
    ·rw[getD_set_ne true hjs,getD_set_ne true hsi,hls]at h;cases h
    ·exact h
   refine⟨Or.inr hS',ih (listed.setIfInBounds j true) a' w' (by rw[getD_set_ne true hjs];exact hls) hfree' (ready_mono hr (Ne.symm hji)) h3.1 hS' ?_⟩;rw[Array.setIfInBounds_comm _ _ hji];exact h3.2.2
theorem wpAnyS_take{i:Nat}{oi:Oper}{v:Value}{fuel:Nat}{listed:Array Bool}{a:Act}{w:World}(hi:ops[i]? =some oi)
  (hs:Region.noSelect ops=true)(hf:(Region.free md ops listed i&&(Region.ready md ops listed).contains i&&Region.waitsFor md ops s i&& !(listed.getD s true)&&(i !=s))=true)
  (hQ:∀c a w,Q (.panic c) (a.put oi.dst v) w->Q (.panic c) a w)(hy:YieldsIf P ops S oi v a)(hS:S w)
  (h:wpAnyS P md ops Q S s fuel (listed.setIfInBounds i true) (a.put oi.dst v) w):wpAnyS P md ops Q S s (fuel+1) listed a w:=by
 simp only[Bool.and_eq_true,Bool.not_eq_true',bne_iff_ne]at hf;obtain⟨⟨⟨⟨h1,h2⟩,h3⟩,h4⟩,h5⟩:=hf;exact wpAnyS_first hi (Region.noSelect_spec hs) hQ (Region.waitsFor_spec h3) h5 fuel listed a w h4 (Region.free_spec hi h1) (by simpa using h2) hy hS h
theorem wpAnyS_first0{i:Nat}{oi:Oper}{v:Value}(hi:ops[i]? =some oi)(hsel:∀(j:Nat)(o:Oper) cs b,ops[j]? =some o->o.op≠ .select cs b)
  (hQ:∀c a w,Q (.panic c) (a.put oi.dst v) w->Q (.panic c) a w)(hsi:i≠s):
  ∀(fuel:Nat)(listed:Array Bool)(a:Act)(w:World),
   (∀j oj,ops[j]? =some oj->j≠i->listed.getD j true=false->(∀e∈oj.after,Region.binds md e=true->e.on≠i)->oi.apart ops oj=true)->
   i∈Region.ready md ops listed->YieldsIf P ops (λ_=>True) oi v a->(listed.getD s true=true∨S w)->
   wpAnyS P md ops Q S s fuel (listed.setIfInBounds i true) (a.put oi.dst v) w->wpAnyS P md ops Q S s (fuel+1) listed a w:=by
 intro fuel
 induction fuel with
 |zero=>
  intro listed a w _ hr hy hS H;refine⟨λh=>(by rw[h]at hr;cases hr),λj hj=> ?_⟩;by_cases hji:j=i
  ·subst hji;exact hy.wpOp hi trivial ⟨by rw[getD_set_ne true hsi];exact hS,H⟩
  ·have:=ready_mono hj hji;rw[H.1]at this;cases this
 |succ fuel ih=>
  intro listed a w hfree hr hy hS H;refine⟨λh=>(by rw[h]at hr;cases hr),λj hj=> ?_⟩;by_cases hji:j=i
  ·subst hji;exact hy.wpOp hi trivial ⟨by rw[getD_set_ne true hsi];exact hS,H⟩
  ·have h1:=H.2 j (ready_mono hj hji);obtain⟨hjun,oj,hoj,hall⟩:=mem_ready.1 hj
   have hnot:∀e∈oj.after,Region.binds md e=true->e.on≠i:=λe he hb heq=>by
    have h1:=hall e he hb;have h0:=(mem_ready.1 hr).1;rw[heq]at h1;rcases Nat.lt_or_ge i listed.size with h'|h'
    ·simp[h']at h0 h1;rw[h0]at h1;cases h1
    ·simp[Array.getElem?_eq_none h']at h1
   have h2:=wpOp_putIf hoj (hfree j oj hoj hji hjun hnot) (λcs b=>hsel i oi cs b hi) (λcs b=>hsel j oj cs b hoj) hQ hy h1
   have hfree':∀k ok,ops[k]? =some ok->k≠i->(listed.setIfInBounds j true).getD k true=false->
     (∀e∈ok.after,Region.binds md e=true->e.on≠i)->oi.apart ops ok=true:=λk ok hk hki hun hno=>by
    refine hfree k ok hk hki ?_ hno;by_cases hjk:j=k
    ·subst hjk;exact hjun
    ·rw[getD_set_ne true hjk]at hun;exact hun
   refine wpOp_mono (λa' w' h3=> ?_) h2
   have hS':(listed.setIfInBounds j true).getD s true=true∨S w':=by
    have:=h3.2.1;rw[Array.setIfInBounds_comm _ _ (Ne.symm hji),getD_set_ne true hsi]at this;exact this
   refine⟨hS',ih (listed.setIfInBounds j true) a' w' hfree' (ready_mono hr (Ne.symm hji)) h3.1 hS' ?_⟩;rw[Array.setIfInBounds_comm _ _ hji];exact h3.2.2
theorem wpAnyS_take0{i:Nat}{oi:Oper}{v:Value}{fuel:Nat}{listed:Array Bool}{a:Act}{w:World}(hi:ops[i]? =some oi)
  (hs:Region.noSelect ops=true)(hf:(Region.free md ops listed i&&(Region.ready md ops listed).contains i&&(i !=s))=true)
  (hQ:∀c a w,Q (.panic c) (a.put oi.dst v) w->Q (.panic c) a w)(hy:YieldsIf P ops (λ_=>True) oi v a)(hS:listed.getD s true=true∨S w)
  (h:wpAnyS P md ops Q S s fuel (listed.setIfInBounds i true) (a.put oi.dst v) w):wpAnyS P md ops Q S s (fuel+1) listed a w:=by
 simp only[Bool.and_eq_true,bne_iff_ne]at hf;obtain⟨⟨h1,h2⟩,h5⟩:=hf;exact wpAnyS_first0 hi (Region.noSelect_spec hs) hQ h5 fuel listed a w (Region.free_spec hi h1) (by simpa using h2) hy hS h
theorem wpAnyS_done{listed:Array Bool}{a:Act}{w:World}(hr:Region.ready md ops listed=[])(h:Q .normal a w):∀fuel,wpAnyS P md ops Q S s fuel listed a w
 |0=>⟨hr,h⟩
 | _+1=>⟨λ_=>h,by rw[hr];simp⟩
theorem wpAnyS_one{i:Nat}{o:Oper}{fuel:Nat}{listed:Array Bool}{a:Act}{w:World}(hr:Region.ready md ops listed=[i])(ho:ops[i]? =some o)(hg:o.guard=none)
  (h:∀K:Act->World->Prop,(∀a' w',((listed.setIfInBounds i true).getD s true=true∨S w')->wpAnyS P md ops Q S s fuel (listed.setIfInBounds i true) a' w'->K a' w')->Oper.wp P o a w K Q):wpAnyS P md ops Q S s (fuel+1) listed a w:=by
 refine⟨λh0=>(by rw[hr]at h0;cases h0),λj hj=> ?_⟩;rw[hr]at hj;simp at hj;subst hj;unfold wpOp;rw[ho];simp only;rw[if_pos (by simp[Region.wanted,hg])];exact Or.inl (h _ λa' w' h1 h2=>⟨h1,h2⟩)
theorem wpAnyS_two{i j:Nat}{o o':Oper}{fuel:Nat}{listed:Array Bool}{a:Act}{w:World}(hr:Region.ready md ops listed=[i,j])(ho:ops[i]? =some o)(hg:o.guard=none)(ho':ops[j]? =some o')(hg':o'.guard=none)
  (h:∀K:Act->World->Prop,(∀a' w',((listed.setIfInBounds i true).getD s true=true∨S w')->wpAnyS P md ops Q S s fuel (listed.setIfInBounds i true) a' w'->K a' w')->Oper.wp P o a w K Q)
  (h':∀K:Act->World->Prop,(∀a' w',((listed.setIfInBounds j true).getD s true=true∨S w')->wpAnyS P md ops Q S s fuel (listed.setIfInBounds j true) a' w'->K a' w')->Oper.wp P o' a w K Q):wpAnyS P md ops Q S s (fuel+1) listed a w:=by
 refine⟨λh0=>(by rw[hr]at h0;cases h0),λq hq=> ?_⟩;rw[hr]at hq;simp at hq;rcases hq with rfl|rfl
 ·unfold wpOp;rw[ho];simp only;rw[if_pos (by simp[Region.wanted,hg])];exact Or.inl (h _ λa' w' h1 h2=>⟨h1,h2⟩)
 ·unfold wpOp;rw[ho'];simp only;rw[if_pos (by simp[Region.wanted,hg'])];exact Or.inl (h' _ λa' w' h1 h2=>⟨h1,h2⟩)
theorem wp_region_S{id:Nat}{a:Act}{w:World}(s:Nat)(S:World->Prop)(hm:P.follows .mixedOrders =true)(h:wpAnyS P .any ops Q S s ops.size (Array.replicate ops.size false) a w.drew):(Code.region id ops true).wp P Q a w:=
 wp_region_any hm (wpAny_of_S _ _ _ _ h)
theorem tkS(i:Nat){oi:Oper}(v:Value){fuel:Nat}{listed:Array Bool}{a:Act}{w:World}(hS:S w)(hy:∀w,S w->(execOp a.eval oi).run P w= .ok (.value v) w)
  (h:wpAnyS P md ops Q S s fuel (listed.setIfInBounds i true) (a.put oi.dst v) w)(hi:ops[i]? =some oi:=by exact rfl)(hs:Region.noSelect ops=true:=by kernel_rfl)
  (hf:(Region.free md ops listed i&&(Region.ready md ops listed).contains i&&Region.waitsFor md ops s i&& !(listed.getD s true)&&(i !=s))=true:=by kernel_rfl)
  (hg:Region.wanted oi (yielded ops a.tmps)=true:=by kernel_rfl)(hQ:∀c a w,Q (.panic c) (a.put oi.dst v) w->Q (.panic c) a w:=by exact λ_ _ _ h=>h):wpAnyS P md ops Q S s (fuel+1) listed a w:=
 wpAnyS_take hi hs hf hQ (Or.inl ⟨hg,hy⟩) hS h
theorem tkZ(i:Nat){oi:Oper}(v:Value){fuel:Nat}{listed:Array Bool}{a:Act}{w:World}(hS:S w)(hy:∀w,(execOp a.eval oi).run P w= .ok (.value v) w)
  (h:wpAnyS P md ops Q S s fuel (listed.setIfInBounds i true) (a.put oi.dst v) w)(hi:ops[i]? =some oi:=by exact rfl)(hs:Region.noSelect ops=true:=by kernel_rfl)
  (hf:(Region.free md ops listed i&&(Region.ready md ops listed).contains i&&(i !=s))=true:=by kernel_rfl)
  (hg:Region.wanted oi (yielded ops a.tmps)=true:=by kernel_rfl)(hQ:∀c a w,Q (.panic c) (a.put oi.dst v) w->Q (.panic c) a w:=by exact λ_ _ _ h=>h):wpAnyS P md ops Q S s (fuel+1) listed a w:=
 wpAnyS_take0 hi hs hf hQ (Or.inl ⟨hg,λw _=>hy w⟩) (Or.inr hS) h
theorem wSd{listed:Array Bool}{a:Act}{w:World}(h:Q .normal a w)(fuel:Nat)(hr:Region.ready md ops listed=[]:=by kernel_rfl):wpAnyS P md ops Q S s fuel listed a w:=wpAnyS_done hr h fuel
theorem wS1(i:Nat){o:Oper}{fuel:Nat}{listed:Array Bool}{a:Act}{w:World}
  (h:∀K:Act->World->Prop,(∀a' w',((listed.setIfInBounds i true).getD s true=true∨S w')->wpAnyS P md ops Q S s fuel (listed.setIfInBounds i true) a' w'->K a' w')->Oper.wp P o a w K Q)
  (hr:Region.ready md ops listed=[i]:=by kernel_rfl)(ho:ops[i]? =some o:=by exact rfl)(hg:o.guard=none:=by exact rfl):wpAnyS P md ops Q S s (fuel+1) listed a w:=wpAnyS_one hr ho hg h
theorem wS2(i j:Nat){o o':Oper}{fuel:Nat}{listed:Array Bool}{a:Act}{w:World}
  (h:∀K:Act->World->Prop,(∀a' w',((listed.setIfInBounds i true).getD s true=true∨S w')->wpAnyS P md ops Q S s fuel (listed.setIfInBounds i true) a' w'->K a' w')->Oper.wp P o a w K Q)
  (h':∀K:Act->World->Prop,(∀a' w',((listed.setIfInBounds j true).getD s true=true∨S w')->wpAnyS P md ops Q S s fuel (listed.setIfInBounds j true) a' w'->K a' w')->Oper.wp P o' a w K Q)
  (hr:Region.ready md ops listed=[i,j]:=by kernel_rfl)(ho:ops[i]? =some o:=by exact rfl)(hg:o.guard=none:=by exact rfl)(ho':ops[j]? =some o':=by exact rfl)(hg':o'.guard=none:=by exact rfl):
  wpAnyS P md ops Q S s (fuel+1) listed a w:=wpAnyS_two hr ho hg ho' hg' h h'
end
structure CompD where
 prod:ByteArray
 cnt:Int
def CompD.cells(c:CompD):List Value:=[.string c.prod,.int .i64 c.cnt]
def CompD.fit(c:CompD):Prop:=c.prod.size≤140737488355328∧I64 c.cnt
structure Comps (Z:Zone) (w:World) (v:Value) (l:List CompD):Prop where
 is:∃A cap,v= .slice A l.length cap∧l.length≤cap∧cap≤9223372036854775807∧l.length*24≤140737488355328∧SeqR (λcs c=>cs=CompD.cells c) 2 Z w l A
 fit:∀c∈l,c.fit
structure ProdD where
 id:ByteArray
 cas:List Int
 cur:ByteArray
 units:Int
 parts:List CompD
def ProdD.fit(p:ProdD):Prop:=p.id.size≤140737488355328∧p.cur.size≤140737488355328∧I64 p.units
def ProdR(Z:Zone)(w:World)(cs:List Value)(p:ProdD):Prop:=
 ∃vc vp,cs=[.string p.id,vc,.string p.cur,.int .i64 p.units,vp]∧Ints Z w vc p.cas∧Comps Z w vp p.parts∧p.fit
def prodV(p:ProdD)(vc vp:Value):Value:= .agg #[.string p.id,vc,.agg #[.string p.cur,.int .i64 p.units],vp]
structure Prods (Z:Zone) (w:World) (v:Value) (l:List ProdD):Prop where
 is:∃A cap,v= .slice A l.length cap∧l.length≤cap∧cap≤9223372036854775807∧l.length*80≤140737488355328∧SeqR (λcs p=>ProdR Z w cs p) 5 Z w l A
section keep
variable {Z Z':Zone} {w w':World} {v:Value}
theorem Comps.keep{l:List CompD}(h:Comps Z w v l)(hk:Keeps Z w w'):Comps Z w' v l:=by
 obtain⟨⟨A,cap,e,h1,h2,h2b,hr⟩,hf⟩:=h;exact⟨⟨A,cap,e,h1,h2,h2b,hr.imp (λ_ _ h=>h) hk (λ_ h=>h)⟩,hf⟩
theorem Comps.mono{l:List CompD}(h:Comps Z w v l)(hz:∀b,Z b->Z' b):Comps Z' w v l:=by
 obtain⟨⟨A,cap,e,h1,h2,h2b,hr⟩,hf⟩:=h;exact⟨⟨A,cap,e,h1,h2,h2b,hr.imp (λ_ _ h=>h) (Keeps.refl Z w) hz⟩,hf⟩
theorem ProdR.keep{cs:List Value}{p:ProdD}(h:ProdR Z w cs p)(hk:Keeps Z w w'):ProdR Z w' cs p:=by
 obtain⟨vc,vp,e,h1,h2,h3⟩:=h;exact⟨vc,vp,e,h1.keep hk,h2.keep hk,h3⟩
theorem ProdR.mono{cs:List Value}{p:ProdD}(h:ProdR Z w cs p)(hz:∀b,Z b->Z' b):ProdR Z' w cs p:=by
 obtain⟨vc,vp,e,h1,h2,h3⟩:=h;exact⟨vc,vp,e,h1.mono hz,h2.mono hz,h3⟩
theorem Prods.keep{l:List ProdD}(h:Prods Z w v l)(hk:Keeps Z w w'):Prods Z w' v l:=by
 obtain⟨⟨A,cap,e,h1,h2,h2b,hr⟩⟩:=h;exact⟨⟨A,cap,e,h1,h2,h2b,hr.imp (λ_ _ h=>h.keep hk) hk (λ_ h=>h)⟩⟩
theorem Prods.mono{l:List ProdD}(h:Prods Z w v l)(hz:∀b,Z b->Z' b):Prods Z' w v l:=by
 obtain⟨⟨A,cap,e,h1,h2,h2b,hr⟩⟩:=h;exact⟨⟨A,cap,e,h1,h2,h2b,hr.imp (λ_ _ h=>h.mono hz) (Keeps.refl Z w) hz⟩⟩
theorem Prods.form{l:List ProdD}(h:Prods Z w v l):∃A cap,v= .slice A l.length cap∧l.length≤1759218604441∧SeqR (λcs p=>ProdR Z w cs p) 5 Z w l A:=by
 obtain⟨⟨A,cap,rfl,_,_,h3,hr⟩⟩:=h;exact⟨A,cap,rfl,by omega,hr⟩
end keep
def findP(l:List ProdD)(id:ByteArray):Int:=if l.findIdx (λp=>decide (p.id=id))<l.length then(l.findIdx (λp=>decide (p.id=id)):Nat)else-1
section
variable {P:Program} {ops:Array Oper} {Q:Exit->Act->World->Prop} {l n:Nat}
def noDefer(ops:Array Oper):Bool:=ops.all λo=>match o.op with| .defer _=>false| _=>true
theorem noDefer_spec(h:noDefer ops=true){i:Nat}{o:Oper}(ho:ops[i]? =some o):∀c,o.op≠ .defer c:=λc e=>by
 unfold noDefer at h;rw[Array.all_eq_true]at h;obtain⟨hlt,he⟩:=Array.getElem?_eq_some_iff.1 ho;have:=h i hlt;rw[he,e]at this;cases this
theorem oper_in{o:Oper}{a:Act}{w:World}{K:Act->World->Prop}(hd:∀c,o.op≠ .defer c)(h:o.wp P a w K Q):o.wpIn (Fence.wide.inRound l) n P a w K Q:=by
 unfold Oper.wp at h;unfold Oper.wpIn;refine⟨λ_ _=>trivial,?_⟩;rw[Fence.inRound_round,Oper.semAt_some _ _ _ hd];generalize (execOp a.eval o).run P w=r at*
 cases r with
 |ok x w'=>
  cases x with
  |enter f args=>exact⟨λhh=>(by cases hh),(callsIn_wide.2 h).inRound l⟩
  |row row args=>exact⟨λhh=>(by cases hh),λc cs _=>let⟨v,w',r,s⟩:=h c cs;⟨v,w',r,stepsIn_wide.2 s⟩⟩
  |round _ _ _ _ _=>exact h.elim
  | _=>exact h
 |halt x w'=>cases x<;>exact h
theorem any_in(hd:noDefer ops=true)(hq:¬LetsOut Q):∀(fuel:Nat)(listed:Array Bool)(a:Act)(w:World),wpAny P .any ops Q fuel listed a w->wpAnyIn (Fence.wide.inRound l) n P .any ops Q fuel listed a w
 |0,_,_,_,h=>h
 |fuel+1,listed,a,w,h=>⟨h.1,λi hi=>by
  have h2:=h.2 i hi;unfold wpOp at h2;unfold wpOpIn
  cases ho:ops[i]? with
  |none=>rw[ho]at h2;exact any_in hd hq fuel _ _ _ h2
  |some o=>
   rw[ho]at h2;simp only at h2⊢;split
   ·rename_i hw;rw[if_pos hw]at h2;rcases h2 with h2|h2
    ·exact oper_in (noDefer_spec hd ho) (Oper.wp_mono (λa w h=>any_in hd hq fuel _ a w h) h2)
    ·exact absurd h2.2 hq
   ·rename_i hw;rw[if_neg hw]at h2
    exact⟨λ_ _=>trivial,any_in hd hq fuel _ _ _ h2⟩⟩
theorem wpIn_region_S{id:Nat}{a:Act}{w:World}(s:Nat)(S:World->Prop)(hm:P.follows .mixedOrders =true)(hd:noDefer ops=true)
  (h:wpAnyS P .any ops (λe a w=>Q e a w∧e≠ .outgrown) S s ops.size (Array.replicate ops.size false) a w.drew):(Code.region id ops true).wpIn (Fence.wide.inRound l) n P Q a w:=
 Code.wpIn_mono (λ_ _ _ h=>h.1) (wpIn_region_any hm (any_in hd (λ⟨_,_,h⟩=>h.2 rfl) _ _ _ _ (wpAny_of_S _ _ _ _ h)))
def onlyN(Q:Exit->Act->World->Prop):Exit->Act->World->Prop
 | .normal,a,w=>Q .normal a w
 | _,_,_=>False
theorem onlyN_mono{e:Exit}{a:Act}{w:World}(h:onlyN Q e a w):Q e a w:=by
 cases e<;>first|exact h|exact h.elim
theorem wpIn_region_W{id:Nat}{a:Act}{w:World}(s:Nat)(S:World->Prop)(hm:P.follows .mixedOrders =true)
  (h:wpAnyS P .any ops (onlyN Q) S s ops.size (Array.replicate ops.size false) a w.drew):(Code.region id ops true).wpIn Fence.wide n P Q a w:=
 Code.wpIn_mono (λ_ _ _ h=>onlyN_mono h) (wpIn_wide.2 (wp_region_S s S hm h))
end
def EachR{α:Type}(R:List Value->α->Prop)(k:Nat):List α->List (List Value)->Prop
 |[],[]=>True
 |f::fs,c::cs=>(R c f∧c.length=k)∧EachR R k fs cs
 | _,_=>False
section each
variable {α:Type} {R R':List Value->α->Prop} {k:Nat}
theorem EachR.imp(hR:∀cs x,R cs x->R' cs x):∀{fs:List α}{csl:List (List Value)},EachR R k fs csl->EachR R' k fs csl
 |[],[],_=>trivial
 | _::_,_::_,h=>⟨⟨hR _ _ h.1.1,h.1.2⟩,EachR.imp hR h.2⟩
 |[],_::_,h=>h.elim
 | _::_,[],h=>h.elim
theorem EachR.append:∀{fs gs:List α}{csl dsl:List (List Value)},EachR R k fs csl->EachR R k gs dsl->EachR R k (fs++gs) (csl++dsl)
 |[],_,[],_,_,h=>h
 | _::_,_,_::_,_,h,h'=>⟨h.1,EachR.append h.2 h'⟩
 |[],_,_::_,_,h,_=>h.elim
 | _::_,_,[],_,h,_=>h.elim
theorem EachR.one{f:α}{c:List Value}(h:R c f)(hl:c.length=k):EachR R k [f] [c]:=⟨⟨h,hl⟩,trivial⟩
theorem EachR.size:∀{fs:List α}{csl:List (List Value)},EachR R k fs csl->csl.flatten.length=fs.length*k
 |[],[],_=>by simp
 | _::fs,c::cs,h=>by rw[List.flatten_cons,List.length_append,EachR.size h.2,h.1.2,List.length_cons,Nat.succ_mul];omega
 |[],_::_,h=>h.elim
 | _::_,[],h=>h.elim
theorem EachR.rows{Z:Zone}{w:World}{b:Nat}(hb:Z b):∀{fs:List α}{csl:List (List Value)}{off:Nat},EachR R k fs csl->(∀j u,csl.flatten[j]? =some u->w.cell? ⟨b,off+j,none⟩=some u)->SeqR R k Z w fs (some ⟨b,off,none⟩)
 |[],[],_,_,_=>by unfold SeqR;trivial
 |f::fs,c::cs,off,h,hc=>by
  unfold SeqR;have hl:c.length=k:=h.1.2;refine⟨b,off,c,rfl,hb,λj u hu=> ?_,h.1.1,EachR.rows hb h.2 λj u hu=> ?_⟩
  ·refine hc j u ?_;rw[List.flatten_cons,List.getElem?_append_left (by have:=List.getElem?_eq_some_iff.1 hu;obtain⟨h,_⟩:=this;exact h)];exact hu
  ·have:=hc (k+j) u (by rw[List.flatten_cons,List.getElem?_append_right (by omega)];rw[show k+j-c.length=j by omega];exact hu);rwa[show off+k+j=off+(k+j) by omega]
 |[],_::_,_,h,_=>h.elim
 | _::_,[],_,h,_=>h.elim
theorem EachR.of_seq{Z:Zone}{w:World}(hR:∀cs x,R cs x->cs.length=k):∀{fs:List α}{A:Option Addr},SeqR R k Z w fs A->∃csl,EachR R k fs csl∧∀b off,A=some ⟨b,off,none⟩->∀j u,csl.flatten[j]? =some u->w.cell? ⟨b,off+j,none⟩=some u
 |[],_,_=>⟨[],trivial,λ_ _ _ j u hu=>by simp at hu⟩
 |f::fs,A,⟨b,off,cs,e,hz,hc,h1,h2⟩=>by
  obtain⟨csl,h3,h4⟩:=EachR.of_seq hR h2;refine⟨cs::csl,⟨⟨h1,hR _ _ h1⟩,h3⟩,λb' off' e' j u hu=> ?_⟩;have hl:=hR _ _ h1;rw[e]at e';injection e' with e';injection e' with e1 e2;subst e1 e2;rw[List.flatten_cons]at hu;by_cases hj:j<cs.length
  ·rw[List.getElem?_append_left hj]at hu;exact hc j u hu
  ·rw[List.getElem?_append_right (by omega)]at hu;have:=h4 b (off+k) rfl (j-cs.length) u hu;rwa[show off+k+(j-cs.length)=off+j from by omega]at this
end each
theorem ProdR.size{Z:Zone}{w:World}{cs:List Value}{p:ProdD}(h:ProdR Z w cs p):cs.length=5:=by
 obtain⟨vc,vp,rfl,_⟩:=h;rfl
theorem prods_own{Z:Zone}{w:World}{base:Nat}{t:TypeId}{v:Value}{l:List ProdD}{csl:List (List Value)}(h:w.ownsRow base t 5 v l.length csl.flatten)(he:EachR (ProdR Z w) 5 l csl)(hl:l.length*80≤140737488355328)(hz:∀b,v.ownBlock=some b->Z b):
  Prods Z w v l:=by
 obtain⟨A,cap,rfl,h1,h2,h3⟩:=Row.of_own h (by decide);refine⟨⟨A,cap,rfl,h1,by simpa[maxLen]using h2,hl,?_⟩⟩
 cases l with
 |nil=>unfold SeqR;trivial
 |cons p r=>
  have hne:csl.flatten≠[]:=by
   intro e;have:=he.size;rw[e]at this;simp at this
  obtain⟨b,off,rfl,hb,hc⟩:=h3 hne;exact EachR.rows (hz b rfl) he hc
end Go.Proofs.YtimmfbnjndndlaaGreatDoor
