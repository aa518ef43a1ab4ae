/- Texts OP CT M RS. -/
import Derived.ChangeArms
import Derived.SizedLaws
import Derived.Deep.Slices
import Derived.OpenShut
import Derived.Test.YtonmdbdopchkaaaGreatDoorM2
import Derived.Lib.ItoaNum
import Derived.Test.YtonmdbdopchkaaaGreatDoorM3
import Derived.ChangeMaps4
import Derived.OrdersHeld
import Derived.StillTail
import Derived.Deep.RegionHeld3
set_option linter.all false
namespace Go.Proofs.YtonmdbdopchkaaaGreatDoor
open Go.RowKit
section
open Go.ChangeShapes Go.Deep
section op
variable {H:Type} {enc:TypeId × Value->H} {P:Program} {w:World} {held:Bool}
def zDi(w:World):zD:=λb=>b<w.heap.size
abbrev zBI{H:Type}(P:Program)(t:TypeId)(d:DataW H):Prop:=(d.weights P t).all (· ≤reachBytes)=true
theorem zGo{e:TypeId}:∀{l:List (DataW H)}{d:DataW H},d∈l->∀n∈d.weights P e,n∈DataW.weightsAll P e l
 |d'::r,d,hd,n,hn=>by
  simp only[DataW.weightsAll,List.mem_append];rcases List.mem_cons.1 hd with rfl|h
  ·exact Or.inl hn
  ·exact Or.inr (zGo h n hn)
theorem zU6{t e:TypeId}{elems spare:List (DataW H)}(ht:P.underlying t=some (.slice e))(h:zBI P t (.slice elems spare)){d:DataW H}(hd:d∈elems):zBI P e d:=by
 refine List.all_eq_true.2 λn hn=>List.all_eq_true.1 h n ?_
 simp only[DataW.weights,ht,List.mem_cons,List.mem_append];exact Or.inr (Or.inl (zGo hd n hn))
theorem zUp{t e:TypeId}{elems spare:List (DataW H)}(ht:P.underlying t=some (.slice e))(h:zBI P t (.slice elems spare)):(elems.length+spare.length)*P.bytesOf e≤reachBytes:=
 of_decide_eq_true (List.all_eq_true.1 h _ (by simp only[DataW.weights,ht,List.mem_cons];exact Or.inl trivial))
theorem zU7{t:TypeId}{fs:Array Field}{parts:List (DataW H)}(ht:P.underlying t=some (.struct fs))(h:zBI P t (.agg parts)){j:Nat}{f:Field}{d:DataW H}(hf:fs[j]? =some f)(hd:parts[j]? =some d):zBI P f.type d:=by
 refine List.all_eq_true.2 λn hn=>List.all_eq_true.1 h n ?_
 simp only[DataW.weights,ht];exact DataW.weights_mem_each (j:=j) (by simpa using congrArg (Option.map (·.type)) hf) hd n hn
theorem zSR{t:TypeId}{l:List UInt8}(h:zBI P t (.lit (.string l):DataW H)):l.length≤reachBytes:=
 of_decide_eq_true (List.all_eq_true.1 h _ (by simp[DataW.weights]))
theorem zMl{α:Type}{R:List Value->α->Prop}{k:Nat}{Z:zD}{b:Nat}(hz:Z b):∀(n off:Nat),(∀i,i<n->∃cs a,(∀j u,cs[j]? =some u->w.cell? ⟨b,off+i*k+j,none⟩=some u)∧R cs a)->
  ∃l:List α,l.length=n∧zAT R k Z w l (some ⟨b,off,none⟩)
 |0,_,_=>⟨[],rfl,trivial⟩
 |n+1,off,h=>by
  obtain⟨cs,a,h1,h2⟩:=h 0 (by omega)
  obtain⟨l,hl,hs⟩:=zMl hz n (off+k) (λi hi=>by
   obtain⟨cs,a,h1,h2⟩:=h (i+1) (by omega);refine⟨cs,a,λj u hu=> ?_,h2⟩;have:=h1 j u hu
   rwa[show off+(i+1)*k+j=off+k+i*k+j from by rw[Nat.add_mul];omega]at this)
  exact⟨a::l,by simp[hl],b,off,cs,rfl,hz,λj u hu=>by simpa using h1 j u hu,h2,hs⟩
theorem zLI{α:Type}{R:List Value->α->Prop}{t e:TypeId}{k fuel:Nat}{cs:List Value}{x:DataW H × List MemPlace}(hk:0<k)(ht:P.underlying t=some (.slice e))(hc:P.cellsOf e=k)
  (h:DataW.trod enc P w 0 (λ_=>true) held fuel t cs=some x)(hw:zBI P t x.1)
  (hel:∀m cs y,m<fuel->cs.length=k->DataW.trod enc P w 0 (λ_=>true) held m e cs=some y->zBI P e y.1->∃a,R cs a):
  ∃(l:List α)(A:Option Addr)(cap:Nat),cs=[.slice A l.length cap]∧l.length≤cap∧cap≤maxLen∧cap*P.bytesOf e≤reachBytes∧zAT R k (zDi w) w l A:=by
 rcases DataW.trod_slice ht h with⟨rfl,rfl⟩|⟨a,len,cap,elems,rest,n,rfl,rfl,rfl,-,hl,hm,hlen,hx,hsp,-⟩
 ·exact⟨[],none,0,rfl,Nat.le_refl _,by simp,by simp,trivial⟩
 have hr:=(hsp rfl).1;have hb:=zUp ht hw;rw[List.length_map,List.length_map,hlen,hr,show len+(cap-len)=cap from by omega]at hb
 have hall:∀i,i<len->∃cs a',(∀j u,cs[j]? =some u->w.cell? (a.add (i*k+j))=some u)∧R cs a'∧cs.length=k:=by
  intro i hi;have h1:=hx i hi;rw[hc]at h1;have hi':i<elems.length:=by omega
  rw[List.getElem?_eq_getElem hi',Option.bind_eq_some_iff]at h1;obtain⟨cs',h2,h3⟩:=h1;obtain⟨-,h4,h5⟩:=World.cells?_some h2;obtain⟨a',h6⟩:=hel n cs' _ (by omega) h4 h3 (zU6 ht hw (List.mem_map.2 ⟨_,List.getElem_mem hi',rfl⟩));refine⟨cs',a',λj u hu=> ?_,h6,h4⟩
  have hj:j<k:=by
   rcases Nat.lt_or_ge j cs'.length with h|h
   ·omega
   ·rw[List.getElem?_eq_none h]at hu;cases hu
  rw[<-add_add,h5 j hj,hu]
 rcases Nat.eq_zero_or_pos len with rfl|hp
 ·exact⟨[],some a,cap,rfl,hl,hm,hb,trivial⟩
 obtain⟨b,off,spot⟩:=a;obtain⟨cs0,a0,h1,-,h2⟩:=hall 0 hp;have hc0:=h1 0 (cs0[0]'(by omega)) (List.getElem?_eq_getElem _);simp only[Nat.zero_mul,Nat.add_zero]at hc0;obtain rfl:spot=none:=by simpa[Addr.add]using World.cell?_spot hc0
 have hlt:b<w.heap.size:=by simpa[Addr.add]using lt_of_cell hc0
 obtain⟨l,hll,hs⟩:=zMl (R:=R) (k:=k) (w:=w) (Z:=zDi w) (b:=b) hlt len off (λi hi=>by
  obtain⟨cs',a',h1,h2,-⟩:=hall i hi
  exact⟨cs',a',λj u hu=>by have:=h1 j u hu;rw[Go.WideShapes.add_plain]at this;rwa[Nat.add_assoc],h2⟩)
 exact⟨l,some ⟨b,off,none⟩,cap,by rw[hll],by omega,hm,hb,hs⟩
theorem zNZ{Z:zD}:∀{l:List Value}{A:Option Addr},zAT (λcs v=>cs=[v]) 1 Z w l A->Row Z w A l
 |[],_,_=>Row.nil
 |v::l,A,h=>λ_=>by
  have h0:=h;obtain⟨b,off,cs,e,hz,hc,h1,h2⟩:=h;refine⟨b,off,e,hz,λj u hu=> ?_⟩
  have hj:j<(v::l).length :=by
   rcases Nat.lt_or_ge j (v::l).length with h|h
   ·exact h
   ·rw[List.getElem?_eq_none h]at hu;cases hu
  obtain⟨b',off',cs',e',hz',hc',h1'⟩:=zAT.at_ h0 hj;subst e;injection e' with e';injection e' with eb eo;subst eb eo;have:=hc' 0 u (by rw[h1'];rw[List.getElem?_eq_getElem hj]at hu;simpa using hu);simpa using this
theorem zMm{n:Int}(h:(Lit.int .i64 n).wf =true):I64 n:=by
 have:=bounds_i64 h;exact this
theorem zPp{t e:TypeId}{fuel:Nat}{cs:List Value}{x:DataW H × List MemPlace}(ht:P.underlying t=some (.slice e))(he:P.underlying e=some (.int .i64))(hc:P.cellsOf e=1)(hb:P.bytesOf e=8)
  (h:DataW.trod enc P w 0 (λ_=>true) held fuel t cs=some x)(hw:zBI P t x.1):∃v xs,cs=[v]∧zL (zDi w) w v xs:=by
 obtain⟨l,A,cap,rfl,h1,h2,h3,h4⟩:=zLI (R:=λcs(n:Int)=>cs=[.int .i64 n]∧I64 n) (Nat.zero_lt_one) ht hc h hw (λm cs y _ _ hy _=>by
  obtain⟨n,rfl,-,hn⟩:=DataW.trod_int he hy
  exact⟨n,rfl,zMm hn⟩)
 rw[hb]at h3;have hr:reachBytes=140737488351232:=rfl;rw[hr]at h3;refine⟨_,l,rfl,⟨A,cap,rfl,h1,by simpa[maxLen]using h2,by omega,?_⟩,?_⟩
 ·clear h1
  have:∀(l:List Int)(A:Option Addr),zAT (λcs(n:Int)=>cs=[.int .i64 n]∧I64 n) 1 (zDi w) w l A->zAT (λcs v=>cs=[v]) 1 (zDi w) w (l.map (.int .i64)) A:=by
   intro l
   induction l with
   |nil=>intro A _;exact trivial
   |cons n l ih=>intro A ⟨b,off,cs,e,hz,hc,h1,h2⟩;exact⟨b,off,cs,e,hz,hc,h1.1,ih _ h2⟩
  exact zNZ (this _ _ h4)
 ·intro n hn;obtain⟨i,hi,rfl⟩:=List.getElem_of_mem hn;obtain⟨_,_,_,_,_,_,h⟩:=zAT.at_ h4 hi;exact h.2
theorem zHi{t:TypeId}{fs:Array Field}{fuel:Nat}{cs:List Value}{x:DataW H × List MemPlace}(ht:P.underlying t=some (.struct fs))(h:DataW.trod enc P w 0 (λ_=>true) held fuel t cs=some x)(hw:zBI P t x.1):
  cs.length=P.cellsOf t∧∀(j:Nat)(f:Field),fs[j]? =some f->∃m y,m<fuel∧DataW.trod enc P w 0 (λ_=>true) held m f.type ((cs.drop f.offset).take (P.cellsOf f.type))=some y∧zBI P f.type y.1:=by
 obtain⟨xs,n,rfl,rfl,hl,hlen,hf⟩:=DataW.trod_struct ht h;refine⟨hl,λj f hj=> ?_⟩;have h1:=hf j f hj
 have hlt:j<xs.length:=by
  rw[hlen];rcases Nat.lt_or_ge j fs.size with h|h
  ·exact h
  ·rw[Array.getElem?_eq_none h]at hj;cases hj
 rw[List.getElem?_eq_getElem hlt]at h1;exact⟨n,_,by omega,h1,zU7 ht hw hj (by simp[hlt])⟩
structure Tys (P:Program) (tInt tStr tBool tInts tFact tFacts tNode tNodes tFm tFms:TypeId):Prop where
 int:P.underlying tInt=some (.int .i64)
 intc:P.cellsOf tInt=1
 intb:P.bytesOf tInt=8
 str:P.underlying tStr=some .string
 strc:P.cellsOf tStr=1
 bool:P.underlying tBool=some .bool
 boolc:P.cellsOf tBool=1
 ints:P.underlying tInts=some (.slice tInt)
 intsc:P.cellsOf tInts=1
 fact:∃f0 f1 f2 f3,P.underlying tFact=some (.struct #[f0,f1,f2,f3])∧(f0.type=tStr∧f0.offset=0)∧(f1.type=tInt∧f1.offset=1)∧(f2.type=tInt∧f2.offset=2)∧(f3.type=tInt∧f3.offset=3)
 factc:P.cellsOf tFact=4
 factb:P.bytesOf tFact=40
 facts:P.underlying tFacts=some (.slice tFact)
 factsc:P.cellsOf tFacts=1
 node:∃f0 f1 f2 f3,P.underlying tNode=some (.struct #[f0,f1,f2,f3])∧(f0.type=tBool∧f0.offset=0)∧(f1.type=tInt∧f1.offset=1)∧(f2.type=tInts∧f2.offset=2)∧(f3.type=tInts∧f3.offset=3)
 nodec:P.cellsOf tNode=4
 nodeb:P.bytesOf tNode=64
 nodes:P.underlying tNodes=some (.slice tNode)
 nodesc:P.cellsOf tNodes=1
 fm:∃f0 f1 f2 f3 f4,P.underlying tFm=some (.struct #[f0,f1,f2,f3,f4])∧(f0.type=tInt∧f0.offset=0)∧(f1.type=tStr∧f1.offset=1)∧(f2.type=tInt∧f2.offset=2)∧(f3.type=tInt∧f3.offset=3)∧(f4.type=tFms∧f4.offset=4)
 fmc:P.cellsOf tFm=5
 fmb:P.bytesOf tFm=64
 fms:P.underlying tFms=some (.slice tFm)
 fmsc:P.cellsOf tFms=1
theorem zHj:reachBytes=140737488351232:=rfl
theorem zGT{t:TypeId}{m:Nat}{v:Value}{y:DataW H × List MemPlace}(ht:P.underlying t=some (.int .i64))(h:DataW.trod enc P w 0 (λ_=>true) held m t [v]=some y):∃n,v= .int .i64 n∧I64 n:=by
 obtain⟨n,e,-,hn⟩:=DataW.trod_int ht h;exact⟨n,by simpa using e,zMm hn⟩
theorem zSS{t:TypeId}{m:Nat}{v:Value}{y:DataW H × List MemPlace}(ht:P.underlying t=some .string)(h:DataW.trod enc P w 0 (λ_=>true) held m t [v]=some y)(hw:zBI P t y.1):∃s:ByteArray,v= .string s∧s.size≤140737488355328:=by
 obtain⟨s,e,rfl,-⟩:=DataW.trod_string ht h;have:=zSR hw;rw[zHj]at this;have e2:s.size=s.data.toList.length:=by rw[Array.length_toList];rfl
 exact⟨s,List.singleton_inj.1 e,by omega⟩
theorem zU8{t:TypeId}{m:Nat}{v:Value}{y:DataW H × List MemPlace}(ht:P.underlying t=some .bool)(h:DataW.trod enc P w 0 (λ_=>true) held m t [v]=some y):∃b:Bool,v= .bool b:=by
 obtain⟨b,e,-⟩:=DataW.trod_bool ht h;exact⟨b,by simpa using e⟩
variable {tInt tStr tBool tInts tFact tFacts tNode tNodes tFm tFms:TypeId}
theorem zOZ(T:Tys P tInt tStr tBool tInts tFact tFacts tNode tNodes tFm tFms){m:Nat}{v:Value}{y:DataW H × List MemPlace}(h:DataW.trod enc P w 0 (λ_=>true) held m tInts [v]=some y)(hw:zBI P tInts y.1):∃xs,zL (zDi w) w v xs:=by
 obtain⟨v',xs,e,h⟩:=zPp T.ints T.int T.intc T.intb h hw;obtain rfl:v=v':=by simpa using e
 exact⟨xs,h⟩
theorem zTW(T:Tys P tInt tStr tBool tInts tFact tFacts tNode tNodes tFm tFms){m:Nat}{v:Value}{y:DataW H × List MemPlace}(h:DataW.trod enc P w 0 (λ_=>true) held m tFacts [v]=some y)(hw:zBI P tFacts y.1):∃xs,Facts (zDi w) w v xs:=by
 obtain⟨l,A,cap,e,h1,h2,h3,h4⟩:=zLI (R:=λcs(f:zC)=>cs=zC.cells f∧f.fit) (by decide) T.facts T.factc h hw (λm cs y _ hl hy hw=>by
  obtain⟨f0,f1,f2,f3,hf,⟨t0,o0⟩,⟨t1,o1⟩,⟨t2,o2⟩,⟨t3,o3⟩⟩:=T.fact;obtain⟨-,hp⟩:=zHi hf hy hw
  match cs,hl with
  |[c0,c1,c2,c3],_=>
   obtain⟨m0,y0,-,q0,w0⟩:=hp 0 f0 rfl;obtain⟨m1,y1,-,q1,w1⟩:=hp 1 f1 rfl;obtain⟨m2,y2,-,q2,w2⟩:=hp 2 f2 rfl;obtain⟨m3,y3,-,q3,w3⟩:=hp 3 f3 rfl;rw[t0,o0,T.strc]at q0;rw[t0]at w0;rw[t1,o1,T.intc]at q1;rw[t2,o2,T.intc]at q2;rw[t3,o3,T.intc]at q3;obtain⟨s,rfl,hs⟩:=zSS T.str q0 w0;obtain⟨n1,rfl,i1⟩:=zGT T.int q1;obtain⟨n2,rfl,i2⟩:=zGT T.int q2;obtain⟨n3,rfl,i3⟩:=zGT T.int q3
   exact⟨⟨s,n1,n2,n3⟩,rfl,hs,i1,i2,i3⟩)
 rw[T.factb,zHj]at h3;obtain rfl:v=_:=by simpa using e
 refine⟨l,⟨A,cap,rfl,h1,by simpa[maxLen]using h2,by omega,h4.imp (λ_ _ h=>h.1) (zA.refl _ _) (λ_ h=>h)⟩,λx hx=> ?_⟩;obtain⟨i,hi,rfl⟩:=List.getElem_of_mem hx;obtain⟨_,_,_,_,_,_,h⟩:=zAT.at_ h4 hi;exact h.2
theorem zU9(T:Tys P tInt tStr tBool tInts tFact tFacts tNode tNodes tFm tFms){m:Nat}{cs:List Value}{y:DataW H × List MemPlace}(hl:cs.length=4)(hy:DataW.trod enc P w 0 (λ_=>true) held m tNode cs=some y)(hw:zBI P tNode y.1):∃n,zd (zDi w) w cs n:=by
 obtain⟨f0,f1,f2,f3,hf,⟨t0,o0⟩,⟨t1,o1⟩,⟨t2,o2⟩,⟨t3,o3⟩⟩:=T.node;obtain⟨-,hp⟩:=zHi hf hy hw
 match cs,hl with
 |[c0,c1,c2,c3],_=>
  obtain⟨m0,y0,-,q0,w0⟩:=hp 0 f0 rfl;obtain⟨m1,y1,-,q1,w1⟩:=hp 1 f1 rfl;obtain⟨m2,y2,-,q2,w2⟩:=hp 2 f2 rfl;obtain⟨m3,y3,-,q3,w3⟩:=hp 3 f3 rfl;rw[t0,o0,T.boolc]at q0;rw[t1,o1,T.intc]at q1;rw[t2,o2,T.intsc]at q2;rw[t3,o3,T.intsc]at q3;rw[t2]at w2;rw[t3]at w3;obtain⟨b,rfl⟩:=zU8 T.bool q0;obtain⟨n1,rfl,i1⟩:=zGT T.int q1;obtain⟨xs,i2⟩:=zOZ T q2 w2;obtain⟨ys,i3⟩:=zOZ T q3 w3;exact⟨⟨b,n1,xs,ys⟩,_,_,rfl,i1,i2,i3⟩
theorem zTX(T:Tys P tInt tStr tBool tInts tFact tFacts tNode tNodes tFm tFms){m:Nat}{v:Value}{y:DataW H × List MemPlace}(h:DataW.trod enc P w 0 (λ_=>true) held m tNodes [v]=some y)(hw:zBI P tNodes y.1):∃ns,zO (zDi w) w v ns:=by
 obtain⟨l,A,cap,e,h1,h2,h3,h4⟩:=zLI (R:=zd (zDi w) w) (by decide) T.nodes T.nodec h hw (λm cs y _ hl hy hw=>zU9 T hl hy hw);rw[T.nodeb,zHj]at h3;obtain rfl:v=_:=by simpa using e
 exact⟨l,A,cap,rfl,h1,by simpa[maxLen]using h2,by omega,h4⟩
theorem zVi(T:Tys P tInt tStr tBool tInts tFact tFacts tNode tNodes tFm tFms):∀(m:Nat)(cs:List Value)(y:DataW H × List MemPlace),cs.length=5->DataW.trod enc P w 0 (λ_=>true) held m tFm cs=some y->zBI P tFm y.1->∃f,FmR (zDi w) w f cs:=by
 intro m
 induction m using Nat.strongRecOn with
 |ind m ih=>
  intro cs y hl hy hw;obtain⟨f0,f1,f2,f3,f4,hf,⟨t0,o0⟩,⟨t1,o1⟩,⟨t2,o2⟩,⟨t3,o3⟩,⟨t4,o4⟩⟩:=T.fm;obtain⟨-,hp⟩:=zHi hf hy hw
  match cs,hl with
  |[c0,c1,c2,c3,c4],_=>
   obtain⟨m0,y0,-,q0,w0⟩:=hp 0 f0 rfl;obtain⟨m1,y1,-,q1,w1⟩:=hp 1 f1 rfl;obtain⟨m2,y2,-,q2,w2⟩:=hp 2 f2 rfl;obtain⟨m3,y3,-,q3,w3⟩:=hp 3 f3 rfl;obtain⟨m4,y4,lt4,q4,w4⟩:=hp 4 f4 rfl;rw[t0,o0,T.intc]at q0;rw[t1,o1,T.strc]at q1;rw[t2,o2,T.intc]at q2;rw[t3,o3,T.intc]at q3;rw[t4,o4,T.fmsc]at q4;rw[t1]at w1;rw[t4]at w4;obtain⟨n0,rfl,i0⟩:=zGT T.int q0;obtain⟨s,rfl,hs⟩:=zSS T.str q1 w1;obtain⟨n2,rfl,i2⟩:=zGT T.int q2;obtain⟨n3,rfl,i3⟩:=zGT T.int q3;obtain⟨l,A,cap,e,h1,h2,h3,h4⟩:=zLI (R:=λcs f=>FmR (zDi w) w f cs) (by decide) T.fms T.fmc q4 w4 (λm' cs y hm hl hy hw=>ih m' (by omega) cs y hl hy hw);rw[T.fmb,zHj]at h3;(obtain rfl:c4=_:=by simpa using e);refine⟨.mk n0 s n2 n3 l,?_⟩;unfold FmR;exact⟨i0,hs,i2,i3,A,cap,rfl,h1,by simpa[maxLen]using h2,by omega,zt.of_seq h4⟩
end op
end
def zO0(l:List UInt8):Nat:=l.foldl (λa c=>a*10+(c.toNat-48)) 0
theorem zFZ{d:Nat}(h:d<10):(UInt8.ofNat (48+d)).toNat =48+d:=by
 show(48+d)%256=_;omega
theorem zHx(u:Nat):zO0 (Lib.decDigits u)=u:=by
 induction u using Nat.strongRecOn with
 | _ u ih=>
  rw[Lib.decDigits];by_cases h:u<10
  ·rw[dif_pos h];unfold zO0;rw[List.foldl_cons,List.foldl_nil,zFZ h];omega
  ·rw[dif_neg h];have:=ih (u / 10) (by omega);unfold zO0 at this⊢;rw[List.foldl_append,this,List.foldl_cons,List.foldl_nil,zFZ (by omega)];omega
def zAm(c:UInt8):Prop:=48≤c.toNat∧c.toNat≤57
theorem zCX(u:Nat):∀c∈Lib.decDigits u,zAm c:=by
 induction u using Nat.strongRecOn with
 | _ u ih=>
  intro c hc;rw[Lib.decDigits]at hc;by_cases h:u<10
  ·rw[dif_pos h]at hc;rw[List.mem_singleton]at hc;rw[hc];unfold zAm;rw[zFZ h];omega
  ·rw[dif_neg h]at hc;rcases List.mem_append.1 hc with hc|hc
   ·exact ih (u / 10) (by omega) c hc
   ·rw[List.mem_singleton]at hc;rw[hc];unfold zAm;rw[zFZ (by omega)];omega
theorem zHy{u v:Nat}(h:Lib.decDigits u=Lib.decDigits v):u=v:=by
 rw[<-zHx u,h,zHx]
theorem zGU{m n:Int}(h:Lib.itoa m=Lib.itoa n):m=n:=by
 unfold Lib.itoa at h;by_cases h1:m<0
 ·by_cases h2:n<0
  ·rw[if_pos h1,if_pos h2]at h;injection h with _ h;have:=zHy h;omega
  ·rw[if_pos h1,if_neg h2]at h;have:=zCX n.toNat 45 (by rw[<-h];simp);unfold zAm at this;simp at this
 ·by_cases h2:n<0
  ·rw[if_neg h1,if_pos h2]at h;have:=zCX m.toNat 45 (by rw[h];simp);unfold zAm at this;simp at this
  ·rw[if_neg h1,if_neg h2]at h;have:=zHy h;omega
theorem zRC(n:Int):∀c∈Lib.itoa n,zAm c∨c=45:=λc hc=>by
 unfold Lib.itoa at hc;split at hc
 ·rcases List.mem_cons.1 hc with h|h
  ·exact Or.inr h
  ·exact Or.inl (zCX _ c h)
 ·exact Or.inl (zCX _ c hc)
theorem zHU{n:Int}{s:UInt8}(h1:¬zAm s)(h2:s≠45):s∉Lib.itoa n:=λh=>by
 rcases zRC n s h with h|h
 ·exact h1 h
 ·exact h2 h
theorem zDj{s:UInt8}:∀{A A' B B':List UInt8},s∉A->s∉A'->A++s::B=A'++s::B'->A=A'∧B=B'
 |[],[],_,_,_,_,h=>by injection h with _ h;exact⟨rfl,h⟩
 |[],a::A',_,_,_,h2,h=>by injection h with h _;exact absurd (by rw[h];simp) h2
 |a::A,[],_,_,h1,_,h=>by injection h with h _;exact absurd (by rw[<-h];simp) h1
 |a::A,b::A',_,_,h1,h2,h=>by
  injection h with h h';obtain⟨e,e'⟩:=zDj (λh=>h1 (List.mem_cons_of_mem _ h)) (λh=>h2 (List.mem_cons_of_mem _ h)) h';exact⟨by rw[h,e],e'⟩
theorem zIx{x x':UInt8}(hx:¬zAm x)(hx':¬zAm x'):∀{A A' B B':List UInt8},(∀c∈A,zAm c)->(∀c∈A',zAm c)->A++x::B=A'++x'::B'->A=A'∧x::B=x'::B'
 |[],[],_,_,_,_,h=>⟨rfl,h⟩
 |[],a::A',_,_,_,h2,h=>by injection h with h _;exact absurd (h2 a (by simp)) (h▸hx)
 |a::A,[],_,_,h1,_,h=>by injection h with h _;exact absurd (h1 a (by simp)) (h▸hx')
 |a::A,b::A',_,_,h1,h2,h=>by
  injection h with h h';obtain⟨e,e'⟩:=zIx hx hx' (λc hc=>h1 c (List.mem_cons_of_mem _ hc)) (λc hc=>h2 c (List.mem_cons_of_mem _ hc)) h';exact⟨by rw[h,e],e'⟩
def zBl(l:List Int):List UInt8:=l.flatMap λk=>Lib.itoa k++[44]
theorem zEK(k:Int)(l:List Int):zBl (k::l)=Lib.itoa k++44::zBl l:=by unfold zBl;rw[List.flatMap_cons];simp
theorem zLJ(l:List Int):(58:UInt8)∉zBl l:=λh=>by
 unfold zBl at h;obtain⟨k,_,hk⟩:=List.mem_flatMap.1 h;rcases List.mem_append.1 hk with hk|hk
 ·exact zHU (by unfold zAm;decide) (by decide) hk
 ·simp at hk
theorem zIy:∀{l m:List Int},zBl l=zBl m->l=m
 |[],[],_=>rfl
 |[],k::m,h=>by rw[zEK]at h;have:=congrArg List.length h;simp[zBl]at this
 |k::l,[],h=>by rw[zEK]at h;have:=congrArg List.length h;simp[zBl]at this
 |k::l,k'::m,h=>by
  rw[zEK,zEK]at h;have hn:∀n,(44:UInt8)∉Lib.itoa n:=λn=>zHU (by unfold zAm;decide) (by decide)
  obtain⟨e,e'⟩:=zDj (hn k) (hn k') h;rw[zGU e,zIy e']
def zDk(n:zB):List UInt8:=(if n.leaf=true then 49 else 48)::(Lib.itoa n.fact++58::(zBl n.cuts++58::zBl n.kids))
theorem zRD{m n:zB}(h:zDk m=zDk n):m=n:=by
 obtain⟨a,b,c,d⟩:=m;obtain⟨a',b',c',d'⟩:=n;unfold zDk at h;injection h with h1 h;simp only at h h1;have hn:∀n,(58:UInt8)∉Lib.itoa n:=λn=>zHU (by unfold zAm;decide) (by decide)
 obtain⟨e1,h⟩:=zDj (hn b) (hn b') h;obtain⟨e2,h⟩:=zDj (zLJ c) (zLJ c') h;have e3:a=a':=by cases a<;>cases a'<;>simp_all
 rw[zGU e1,zIy e2,zIy h,e3]
mutual
def zAi:Fm->List UInt8
 | .mk op nm cm nu kids=>Lib.itoa op++nm.data.toList++44::(Lib.itoa cm++44::(Lib.itoa nu++40::(zAJ kids++[41])))
def zAJ:List Fm->List UInt8
 |[]=>[]
 |k::r=>zAi k++zAJ r
end
mutual
def zCg:Fm->Bool
 | .mk op nm _ _ kids=>decide (1≤op)&&decide (op≤6)&&(if op=3 then zA7 nm.data.toList else decide (nm=⟨#[]⟩))&&zCz kids
def zCz:List Fm->Bool
 |[]=>true
 |k::r=>zCg k&&zCz r
end
theorem zGE{op:Int}(h1:1≤op)(h6:op≤6):Lib.itoa op=[UInt8.ofNat (48+op.toNat)]:=by
 unfold Lib.itoa;rw[if_neg (by omega),Lib.decDigits,dif_pos (by omega)]
theorem zGV{op:Int}(h1:1≤op)(h6:op≤6):(UInt8.ofNat (48+op.toNat)).toNat =48+op.toNat:=zFZ (by omega)
theorem zUq{op op':Int}(h1:1≤op)(h6:op≤6)(h1':1≤op')(h6':op'≤6)(h:UInt8.ofNat (48+op.toNat)=UInt8.ofNat (48+op'.toNat)):op=op':=by
 have:=congrArg UInt8.toNat h;rw[zGV h1 h6,zGV h1' h6']at this;omega
def zUr(l:List UInt8):Prop:=(44:UInt8)∉l∧∀r,∃x B,¬zAm x∧l++44::r=x::B
theorem zGp{op:Int}{nm:ByteArray}(h:(if op=3 then zA7 nm.data.toList else decide (nm=⟨#[]⟩))=true):zUr nm.data.toList:=by
 split at h
 ·generalize nm.data.toList=l at*
  cases l with
  |nil=>simp[zA7]at h
  |cons c r=>
   unfold zA7 at h;simp only[Bool.and_eq_true,List.all_eq_true]at h;obtain⟨⟨hc,hr⟩,_⟩:=h
   have hlet:zv c=true->c≠44∧¬zAm c:=λh=>by
    unfold zv at h;simp only[Bool.or_eq_true,decide_eq_true_eq]at h;refine⟨λe=> ?_,λe=> ?_⟩
    ·subst e;simp at h
    ·unfold zAm at e;omega
   refine⟨λhm=> ?_,λr'=>⟨c,r++44::r',(hlet hc).2,rfl⟩⟩;rcases List.mem_cons.1 hm with e|e
   ·exact(hlet hc).1 e.symm
   ·have:=hr _ e;revert this;decide
 ·have e:nm.data.toList=[]:=by rw[decide_eq_true_eq]at h;rw[h]
  rw[e];exact⟨by simp,λr=>⟨44,r,by unfold zAm;decide,rfl⟩⟩
theorem zTY{a b:ByteArray}(h:a.data.toList=b.data.toList):a=b:=by
 cases a;cases b;simp only at h;congr 1;exact Array.toList_inj.1 h
mutual
theorem zLK:∀{f g:Fm}{r r':List UInt8},zCg f=true->zCg g=true->zAi f++r=zAi g++r'->f=g∧r=r'
 | .mk op nm cm nu kids,.mk op' nm' cm' nu' kids',r,r',h1,h2,h=>by
  rw[zCg]at h1 h2;simp only[Bool.and_eq_true,decide_eq_true_eq]at h1 h2;obtain⟨⟨⟨a1,a2⟩,a3⟩,a4⟩:=h1;obtain⟨⟨⟨b1,b2⟩,b3⟩,b4⟩:=h2;rw[zAi,zAi,zGE a1 a2,zGE b1 b2]at h;simp only[List.cons_append,List.nil_append,List.append_assoc]at h;injection h with h0 h;have n1:=(zGp a3).1;have n2:=(zGp b3).1;have hn:∀n,(44:UInt8)∉Lib.itoa n:=λn=>zHU (by unfold zAm;decide) (by decide)
  have hn':∀n,(40:UInt8)∉Lib.itoa n:=λn=>zHU (by unfold zAm;decide) (by decide)
  obtain⟨e1,h⟩:=zDj n1 n2 h;obtain⟨e2,h⟩:=zDj (hn cm) (hn cm') h;obtain⟨e3,h⟩:=zDj (hn' nu) (hn' nu') h;obtain⟨e4,h⟩:=zJk a4 b4 h;exact⟨by rw[zUq a1 a2 b1 b2 h0,zTY e1,zGU e2,zGU e3,e4],h⟩
theorem zJk:∀{l m:List Fm}{r r':List UInt8},zCz l=true->zCz m=true->zAJ l++41::r=zAJ m++41::r'->l=m∧r=r'
 |[],[],_,_,_,_,h=>by simp[zAJ]at h;exact⟨rfl,h⟩
 |[],.mk op nm cm nu kids::m,r,r',_,h2,h=>by
  rw[zCz,zCg]at h2;simp only[Bool.and_eq_true,decide_eq_true_eq]at h2;rw[zAJ,zAJ,zAi,zGE h2.1.1.1.1 h2.1.1.1.2]at h;simp only[List.cons_append,List.nil_append]at h;injection h with h _;have:=congrArg UInt8.toNat h;rw[zGV h2.1.1.1.1 h2.1.1.1.2]at this;simp at this;omega
 | .mk op nm cm nu kids::l,[],r,r',h1,_,h=>by
  rw[zCz,zCg]at h1;simp only[Bool.and_eq_true,decide_eq_true_eq]at h1;rw[zAJ,zAJ,zAi,zGE h1.1.1.1.1 h1.1.1.1.2]at h;simp only[List.cons_append,List.nil_append]at h;injection h with h _;have:=congrArg UInt8.toNat h;rw[zGV h1.1.1.1.1 h1.1.1.1.2]at this;simp at this;omega
 |f::l,g::m,r,r',h1,h2,h=>by
  rw[zCz]at h1 h2;simp only[Bool.and_eq_true]at h1 h2;rw[zAJ,zAJ,List.append_assoc,List.append_assoc]at h;obtain⟨e,h⟩:=zLK h1.1 h2.1 h;obtain⟨e',h⟩:=zJk h1.2 h2.2 h;exact⟨by rw[e,e'],h⟩
end
def zCH(i:Nat)(f:Fm):List UInt8:=Lib.itoa i++zAi f
theorem zTZ{i j:Nat}{f g:Fm}(h1:zCg f=true)(h2:zCg g=true)(h:zCH i f=zCH j g):i=j∧f=g:=by
 obtain⟨op,nm,cm,nu,kids⟩:=f;obtain⟨op',nm',cm',nu',kids'⟩:=g;have p1:=h1;have p2:=h2;rw[zCg]at h1 h2;simp only[Bool.and_eq_true,decide_eq_true_eq]at h1 h2;obtain⟨⟨⟨a1,a2⟩,a3⟩,a4⟩:=h1;obtain⟨⟨⟨b1,b2⟩,b3⟩,b4⟩:=h2
 have hi:∀n:Nat,∀c∈Lib.itoa (n:Int),zAm c:=λn c hc=>by
  unfold Lib.itoa at hc;rw[if_neg (by omega)]at hc;exact zCX _ c hc
 have hsp:=h;unfold zCH at hsp;unfold zCH at h;rw[zAi,zAi,zGE a1 a2,zGE b1 b2]at h;obtain⟨x,B,hx,ex⟩:=(zGp a3).2 (Lib.itoa cm++44::(Lib.itoa nu++40::(zAJ kids++[41])));obtain⟨x',B',hx',ex'⟩:=(zGp b3).2 (Lib.itoa cm'++44::(Lib.itoa nu'++40::(zAJ kids'++[41])))
 have h':(Lib.itoa (i:Int)++[UInt8.ofNat (48+op.toNat)])++x::B=(Lib.itoa (j:Int)++[UInt8.ofNat (48+op'.toNat)])++x'::B':=by
  rw[<-ex,<-ex'];simpa using h
 have hd:∀(n:Nat)(o:Int),1≤o->o≤6->∀c∈Lib.itoa (n:Int)++[UInt8.ofNat (48+o.toNat)],zAm c:=λn o h1 h6 c hc=>by
  rcases List.mem_append.1 hc with hc|hc
  ·exact hi n c hc
  ·rw[List.mem_singleton]at hc;rw[hc];unfold zAm;rw[zGV h1 h6];omega
 obtain⟨e,_⟩:=zIx hx hx' (hd i op a1 a2) (hd j op' b1 b2) h';have e1:=(List.append_inj' e rfl).1;have eij:i=j:=by have:=zGU e1;omega
 subst eij;have:=List.append_cancel_left hsp;exact⟨rfl,(zLK (r:=[]) (r':=[]) p1 p2 (by simpa using this)).1⟩
section kv
variable {κ:Type} [DecidableEq κ]
def zA5:List (κ × Value)->κ->Option Value
 |[],_=>none
 |p::r,x=>if x=p.1 then some p.2 else zA5 r x
def zCB:List (κ × Value)->κ->Nat->Option (Nat × Value)
 |[],_,_=>none
 |p::r,x,i=>if x=p.1 then some (i,p.2)else zCB r x (i+1)
def zAt:List (κ × Value)->κ->Value->List (κ × Value)
 |[],x,v=>[(x,v)]
 |p::r,x,v=>if x=p.1 then(p.1,v)::r else p::zAt r x v
theorem zRE(l:List (κ × Value))(x:κ):∀i,(zCB l x i).map (·.2)=zA5 l x:=by
 induction l with
 |nil=>intro i;rfl
 |cons p r ih=>
  intro i;unfold zCB zA5;split
  ·rfl
  ·exact ih (i+1)
theorem zLs(l:List (κ × Value))(x:κ)(v:Value):zA5 (zAt l x v) x=some v:=by
 induction l with
 |nil=>simp[zAt,zA5]
 |cons p r ih=>
  unfold zAt;split
  ·rename_i h;simp[zA5,h]
  ·rename_i h;simp[zA5,h,ih]
theorem zGq{x y:κ}(h:y≠x)(l:List (κ × Value))(v:Value):zA5 (zAt l x v) y=zA5 l y:=by
 induction l with
 |nil=>simp[zAt,zA5,h]
 |cons p r ih=>
  unfold zAt;split
  ·rename_i e;subst e;simp[zA5,h]
  ·simp[zA5,ih]
end kv
structure zGr (P:Program) (k:TypeId) {κ:Type} [DecidableEq κ] (enc:κ->Value):Prop where
 check:∀(w:World)(em:Bool)(x:κ),(Instr.checkKey em 10000 k (enc x)).run P w= .ok () w
 find:∀(w:World)(x:κ)(es:List MapEntry)(kv:List (κ × Value)),es.map (λe=>(e.key,e.val))=kv.map (λp=>(enc p.1,p.2))->
  (Instr.findKey k (enc x) es).run P w= .ok (zCB kv x 0) w
 stays:∀(w:World)(x:κ),(Instr.keyThatStays (enc x) (enc x)).run P w= .ok (enc x) w
def zu{κ:Type}(enc:κ->Value)(w:World)(b:Nat)(kv:List (κ × Value)):Prop:=
 ∃es clock,w.heap[b]? =some (.map es clock)∧es.toList.map (λe=>(e.key,e.val))=kv.map (λp=>(enc p.1,p.2))
section laws
variable {P:Program} {κ:Type} [DecidableEq κ] {enc:κ->Value} {t k e:TypeId} {w:World} {b:Nat} {kv:List (κ × Value)}
omit [DecidableEq κ] in
theorem zu.lt(h:zu enc w b kv):b<w.heap.size:=by
 obtain⟨es,clock,hb,_⟩:=h;exact(Array.getElem?_eq_some_iff.1 hb).1
omit [DecidableEq κ] in
theorem zu.made(w:World)(enc:κ->Value):zu enc (w.alloc (.map #[] 0)) w.heap.size []:=
 ⟨#[],0,heap_alloc_new w _,rfl⟩
omit [DecidableEq κ] in
theorem zu.of_block{w':World}(h:zu enc w b kv)(hb:w'.heap[b]? =w.heap[b]?):zu enc w' b kv:=by
 obtain⟨es,clock,h1,h2⟩:=h;exact⟨es,clock,hb.trans h1,h2⟩
theorem zu.look(h:zu enc w b kv)(K:zGr P k enc)(ht:P.underlying t=some (.map k e)){z:Value}(hz:(zeroValue e).run P w= .ok z w)(x:κ)(c:Bool):
  (Instr.lookup t (.map (some b)) (enc x) c).run P w= .ok (if c then .tuple #[(zA5 kv x).getD z,.bool (zA5 kv x).isSome]else(zA5 kv x).getD z) w:=by
 obtain⟨es,clock,hb,hm⟩:=h;have hf:=K.find w x es.toList kv hm;rw[<-zRE kv x 0]
 cases hk:zCB kv x 0 with
 |none=>rw[hk]at hf;simp[Instr.lookup,run_underlying ht,MapKept.run_getObj_map hb,K.check w _ x,hf,hz,Result.andThen]
 |some r=>rw[hk]at hf;simp[Instr.lookup,run_underlying ht,MapKept.run_getObj_map hb,K.check w _ x,hf,Result.andThen]
theorem zLL(es:List MapEntry)(kv:List (κ × Value))(hm:es.map (λe=>(e.key,e.val))=kv.map (λp=>(enc p.1,p.2)))(x:κ)(v:Value):
  ∀i j(u:Value),zCB kv x i=some (j,u)->i≤j∧(es[j-i]?).map (·.key)=some (enc x)∧(es.modify (j-i) λe=>{e with key:=enc x,val:=v}).map (λe=>(e.key,e.val))=(zAt kv x v).map (λp=>(enc p.1,p.2)):=by
 induction kv generalizing es with
 |nil=>intro i j u h;simp[zCB]at h
 |cons p r ih=>
  intro i j u h
  cases es with
  |nil=>simp at hm
  |cons e0 es=>
   simp only[List.map_cons,List.cons.injEq]at hm;obtain⟨h0,hr⟩:=hm;unfold zCB at h;unfold zAt;by_cases hx:x=p.1
   ·rw[if_pos hx]at h⊢;injection h with h;injection h with hj hu;subst hj;(have hk:e0.key=enc p.1:=by injection h0);refine⟨Nat.le_refl _,?_,?_⟩
    ·simp[hk,hx]
    ·simp[hx,hr]
   ·rw[if_neg hx]at h⊢;obtain⟨h1,h2,h3⟩:=ih es hr (i+1) j u h;(have e1:j-i=(j-(i+1))+1:=by omega);refine⟨by omega,?_,?_⟩
    ·rw[e1];simpa using h2
    ·rw[e1,List.modify_succ_cons,List.map_cons,List.map_cons,h3,h0]
theorem zLM{x:κ}(v:Value):∀{kv:List (κ × Value)}{i:Nat},zCB kv x i=none->zAt kv x v=kv++[(x,v)]
 |[],_,_=>rfl
 |p::r,i,h=>by
  unfold zCB at h;unfold zAt;split at h
  ·cases h
  ·rename_i hx;rw[if_neg hx,zLM v h];rfl
theorem zu.store(h:zu enc w b kv)(K:zGr P k enc)(ht:P.underlying t=some (.map k e))(x:κ)(v:Value):
  ∃w1,(Instr.mapUpdate t (.map (some b)) (enc x) v).run P w= .ok () w1∧zu enc w1 b (zAt kv x v)∧zA (λc=>c≠b) w w1∧w1.heap.size=w.heap.size∧(∀a,w1.cell? a=w.cell? a)∧(∀a,w1.frozen? a=w.frozen? a):=by
 obtain⟨es,clock,hb,hm⟩:=h;have hf:=K.find w x es.toList kv hm;have hlt:=(Array.getElem?_eq_some_iff.1 hb).1
 have fin:∀es' clock',(∀a,(ChangeMaps.setBlock w b (.map es' clock')).cell? a=w.cell? a)∧(∀a,(ChangeMaps.setBlock w b (.map es' clock')).frozen? a=w.frozen? a)∧zA (λc=>c≠b) w (ChangeMaps.setBlock w b (.map es' clock'))∧(ChangeMaps.setBlock w b (.map es' clock')).heap.size =w.heap.size∧(ChangeMaps.setBlock w b (.map es' clock')).heap[b]? =some (.map es' clock'):=by
  intro es' clock'
  have hh:∀c,(ChangeMaps.setBlock w b (.map es' clock')).heap[c]? =if b=c then some (.map es' clock')else w.heap[c]? :=by
   intro c;simp only[ChangeMaps.setBlock,Array.getElem?_setIfInBounds];split
   ·rename_i hc;subst hc;simp
   ·rfl
  refine⟨λa=> ?_,λa=> ?_,⟨rfl,rfl,rfl,by simp[ChangeMaps.setBlock],λc _ hc=> ?_⟩,by simp[ChangeMaps.setBlock],?_⟩
  ·unfold World.cell?;rw[hh];by_cases hc:b=a.block
   ·rw[if_pos hc,<-hc,hb]
   ·rw[if_neg hc]
  ·unfold World.frozen?;rw[hh];by_cases hc:b=a.block
   ·rw[if_pos hc,<-hc,hb]
   ·rw[if_neg hc]
  ·rw[hh,if_neg (λe=>hc e.symm)]
  ·rw[hh,if_pos rfl]
 cases hk:zCB kv x 0 with
 |none=>
  rw[hk]at hf;obtain⟨f1,f2,f3,f4,f5⟩:=fin (es.push {key:=enc x,val:=v,born:=clock}) (clock+1);refine⟨_,by simp[Instr.mapUpdate,run_underlying ht,MapKept.run_getObj_map hb,K.check w _ x,hf,MapKept.run_setObj_map _ hb,Result.andThen];rfl,⟨_,_,f5,?_⟩,f3,f4,f1,f2⟩;rw[zLM v hk];simp[hm]
 |some r=>
  obtain⟨j,u⟩:=r;rw[hk]at hf;obtain⟨_,h2,h3⟩:=zLL es.toList kv hm x v 0 j u hk;simp only[Nat.sub_zero]at h2 h3;have hj:es[j]?.map (·.key)=some (enc x):=by simpa using h2
  obtain⟨f1,f2,f3,f4,f5⟩:=fin (es.modify j λe=>{e with key:=enc x,val:=v}) clock;refine⟨_,by simp[Instr.mapUpdate,run_underlying ht,MapKept.run_getObj_map hb,K.check w _ x,hf,hj,K.stays,MapKept.run_setObj_map _ hb,Result.andThen];rfl,⟨_,_,f5,?_⟩,f3,f4,f1,f2⟩;simpa using h3
theorem zBm{ops:Array Oper}{rest:List Oper}{o:Oper}{a:Act}{Q:Exit->Act->World->Prop}(hg:o.guard=none)(m x y:Operand)(hop:o.op=Op.mapUpdate t m x y)
  (K:zGr P k enc)(ht:P.underlying t=some (.map k e))(hm:a.eval m= .map (some b))(h:zu enc w b kv)(key:κ)(hx:a.eval x=enc key)
  (hK:∀w1,zu enc w1 b (zAt kv key (a.eval y))->zA (λc=>c≠b) w w1->w1.heap.size=w.heap.size->(∀a,w1.cell? a=w.cell? a)->(∀a,w1.frozen? a=w.frozen? a)->wpList P ops Q rest (a.put o.dst undef) w1):
  wpList P ops Q (o::rest) a w:=by
 refine wpList_plain hg λK' hK'=> ?_
 obtain⟨w1,hrun,h1,h2,h3,h4,h5⟩:=h.store K ht key (a.eval y);unfold Oper.wp;simp[execOp,hop,hm,hx,hrun,Result.andThen];exact hK' _ _ (hK w1 h1 h2 h3 h4 h5)
end laws
section kinds
variable {P:Program} {k:TypeId}
theorem zO1{κ:Type}[DecidableEq κ]{enc:κ->Value}{d:TypeDesc}(hn:∀x y:κ,Instr.sameNow d (enc x) (enc y)=some (decide (x=y)))(x:κ):
  ∀(es:List MapEntry)(kv:List (κ × Value))(i:Nat),es.map (λe=>(e.key,e.val))=kv.map (λp=>(enc p.1,p.2))->Instr.findNow d (enc x) es i=some (zCB kv x i)
 |[],[],_,_=>rfl
 |[],_::_,_,h=>by simp at h
 | _::_,[],_,h=>by simp at h
 |e::es,p::kv,i,h=>by
  simp only[List.map_cons,List.cons.injEq,Prod.mk.injEq]at h;obtain⟨⟨h1,h2⟩,h3⟩:=h;unfold Instr.findNow zCB;rw[h1,hn];by_cases hx:x=p.1
  ·simp[hx,h2]
  ·simp[hx,zO1 hn x es kv (i+1) h3]
theorem zMn{κ:Type}[DecidableEq κ]{enc:κ->Value}{d:TypeDesc}(hk:P.underlying k=some d)(hn:∀x y:κ,Instr.sameNow d (enc x) (enc y)=some (decide (x=y)))
  (hc:∀(w:World)(em:Bool)(x:κ),(Instr.checkKey em 10000 k (enc x)).run P w= .ok () w)(hs:∀x:κ,Instr.sameBits 10000 (enc x) (enc x)=true):zGr P k enc where
 check:=hc
 find w x es kv h:=by
  simp[Instr.findKey,run_underlying hk,zO1 hn x es kv 0 h]
 stays w x:=by simp[Instr.keyThatStays,hs]
def encS(s:ByteArray):Value:= .string s
def encI(n:Int):Value:= .int .i64 n
def zEF(p:Int × Int):Value:= .agg #[.int .i64 p.1,.int .i64 p.2]
theorem zCY(hk:P.underlying k=some .string):zGr P k encS:=
 zMn hk (λx y=>by
  simp only[encS,Instr.sameNow];congr 1;rw[Bool.eq_iff_iff,MapKept.bytes_beq];simp) (λw em x=>MapKept.run_checkKey hk (by simp[encS,MapKept.IsKey]) em 9999) (λx=>by
  simp only[encS,Instr.sameBits];exact(MapKept.bytes_beq x x).2 rfl)
theorem zMo(hk:P.underlying k=some (.int .i64)):zGr P k encI:=
 zMn hk (λx y=>by simp only[encI,Instr.sameNow];simp;rw[Bool.eq_iff_iff];simp) (λw em x=>MapKept.run_checkKey hk (by simp[encI,MapKept.IsKey]) em 9999) (λx=>by simp[encI,Instr.sameBits])
end kinds
section
variable {P:Program} {ops:Array Oper} {Q:Exit->Act->World->Prop} {md:Region.Mode} {S:World->Prop} {s:Nat}
def wpAnyS(P:Program)(md:Region.Mode)(ops:Array Oper)(Q:Exit->Act->World->Prop)(S:World->Prop)(s:Nat):Nat->Array Bool->Act->World->Prop
 |0,listed,a,w=>Region.ready md ops listed=[]∧Q .normal a w
 |fuel+1,listed,a,w=>
  (Region.ready md ops listed=[]->Q .normal a w)∧
  ∀i∈Region.ready md ops listed,wpOp P ops Q i (λa' w'=>((listed.setIfInBounds i true).getD s true=true∨S w')∧wpAnyS P md ops Q S s fuel (listed.setIfInBounds i true) a' w') a w
theorem zLN:∀(fuel:Nat)(listed:Array Bool)(a:Act)(w:World),wpAnyS P md ops Q S s fuel listed a w->wpAny P md ops Q fuel listed a w
 |0,_,_,_,h=>h
 |fuel+1,_,_,_,h=>⟨h.1,λi hi=>wpOp_mono (λa' w' h'=>zLN fuel _ a' w' h'.2) (h.2 i hi)⟩
theorem wpAnyS_first{i:Nat}{oi:Oper}{v:Value}(hi:ops[i]? =some oi)(hsel:∀(j:Nat)(o:Oper) cs b,ops[j]? =some o->o.op≠ .select cs b)
  (hQ:∀c a w,Q (.panic c) (a.put oi.dst v) w->Q (.panic c) a w)(hwait:∃os,ops[s]? =some os∧∃e∈os.after,Region.binds md e=true∧e.on=i)(hsi:i≠s):
  ∀(fuel:Nat)(listed:Array Bool)(a:Act)(w:World),listed.getD s true=false->
   (∀j oj,ops[j]? =some oj->j≠i->listed.getD j true=false->(∀e∈oj.after,Region.binds md e=true->e.on≠i)->oi.apart ops oj=true)->
   i∈Region.ready md ops listed->YieldsIf P ops S oi v a->S w->
   wpAnyS P md ops Q S s fuel (listed.setIfInBounds i true) (a.put oi.dst v) w->wpAnyS P md ops Q S s (fuel+1) listed a w:=by
 intro fuel
 induction fuel with
 |zero=>
  intro listed a w _ _ hr hy hS H;refine⟨λh=>(by rw[h]at hr;cases hr),λj hj=> ?_⟩;by_cases hji:j=i
  ·subst hji;exact hy.wpOp hi hS ⟨Or.inr hS,H⟩
  ·have:=ready_mono hj hji;rw[H.1]at this;cases this
 |succ fuel ih=>
  intro listed a w hls hfree hr hy hS H;refine⟨λh=>(by rw[h]at hr;cases hr),λj hj=> ?_⟩;by_cases hji:j=i
  ·subst hji;exact hy.wpOp hi hS ⟨Or.inr hS,H⟩
  ·have h1:=H.2 j (ready_mono hj hji);obtain⟨hjun,oj,hoj,hall⟩:=mem_ready.1 hj
   have hnot:∀e∈oj.after,Region.binds md e=true->e.on≠i:=λe he hb heq=>by
    have h1:=hall e he hb;have h0:=(mem_ready.1 hr).1;rw[heq]at h1;rcases Nat.lt_or_ge i listed.size with h'|h'
    ·simp[h']at h0 h1;rw[h0]at h1;cases h1
    ·simp[Array.getElem?_eq_none h']at h1
   have hjs:j≠s:=λe=>by
    subst e;obtain⟨os,hos,e,he,hb,hon⟩:=hwait;rw[hos]at hoj;injection hoj with hoj;subst hoj;exact hnot e he hb hon
   have h2:=wpOp_putIf hoj (hfree j oj hoj hji hjun hnot) (λcs b=>hsel i oi cs b hi) (λcs b=>hsel j oj cs b hoj) hQ hy h1
   have hfree':∀k ok,ops[k]? =some ok->k≠i->(listed.setIfInBounds j true).getD k true=false->
     (∀e∈ok.after,Region.binds md e=true->e.on≠i)->oi.apart ops ok=true:=λk ok hk hki hun hno=>by
    refine hfree k ok hk hki ?_ hno;by_cases hjk:j=k
    ·subst hjk;exact hjun
    ·rw[getD_set_ne true hjk]at hun;exact hun
   refine wpOp_mono (λa' w' h3=> ?_) h2
   have hS':S w':=by
    rcases h3.2.1 with h|h
    ·rw[getD_set_ne true hjs,getD_set_ne true hsi,hls]at h;cases h
    ·exact h
   refine⟨Or.inr hS',ih (listed.setIfInBounds j true) a' w' (by rw[getD_set_ne true hjs];exact hls) hfree' (ready_mono hr (Ne.symm hji)) h3.1 hS' ?_⟩;rw[Array.setIfInBounds_comm _ _ hji];exact h3.2.2
theorem zP7{i:Nat}{oi:Oper}{v:Value}{fuel:Nat}{listed:Array Bool}{a:Act}{w:World}(hi:ops[i]? =some oi)
  (hs:Region.noSelect ops=true)(hf:(Region.free md ops listed i&&(Region.ready md ops listed).contains i&&Region.waitsFor md ops s i&& !(listed.getD s true)&&(i !=s))=true)
  (hQ:∀c a w,Q (.panic c) (a.put oi.dst v) w->Q (.panic c) a w)(hy:YieldsIf P ops S oi v a)(hS:S w)
  (h:wpAnyS P md ops Q S s fuel (listed.setIfInBounds i true) (a.put oi.dst v) w):wpAnyS P md ops Q S s (fuel+1) listed a w:=by
 simp only[Bool.and_eq_true,Bool.not_eq_true',bne_iff_ne]at hf;obtain⟨⟨⟨⟨h1,h2⟩,h3⟩,h4⟩,h5⟩:=hf;exact wpAnyS_first hi (Region.noSelect_spec hs) hQ (Region.waitsFor_spec h3) h5 fuel listed a w h4 (Region.free_spec hi h1) (by simpa using h2) hy hS h
theorem zN0{i:Nat}{oi:Oper}{v:Value}(hi:ops[i]? =some oi)(hsel:∀(j:Nat)(o:Oper) cs b,ops[j]? =some o->o.op≠ .select cs b)
  (hQ:∀c a w,Q (.panic c) (a.put oi.dst v) w->Q (.panic c) a w)(hsi:i≠s):
  ∀(fuel:Nat)(listed:Array Bool)(a:Act)(w:World),
   (∀j oj,ops[j]? =some oj->j≠i->listed.getD j true=false->(∀e∈oj.after,Region.binds md e=true->e.on≠i)->oi.apart ops oj=true)->
   i∈Region.ready md ops listed->YieldsIf P ops (λ_=>True) oi v a->(listed.getD s true=true∨S w)->
   wpAnyS P md ops Q S s fuel (listed.setIfInBounds i true) (a.put oi.dst v) w->wpAnyS P md ops Q S s (fuel+1) listed a w:=by
 intro fuel
 induction fuel with
 |zero=>
  intro listed a w _ hr hy hS H;refine⟨λh=>(by rw[h]at hr;cases hr),λj hj=> ?_⟩;by_cases hji:j=i
  ·subst hji;exact hy.wpOp hi trivial ⟨by rw[getD_set_ne true hsi];exact hS,H⟩
  ·have:=ready_mono hj hji;rw[H.1]at this;cases this
 |succ fuel ih=>
  intro listed a w hfree hr hy hS H;refine⟨λh=>(by rw[h]at hr;cases hr),λj hj=> ?_⟩;by_cases hji:j=i
  ·subst hji;exact hy.wpOp hi trivial ⟨by rw[getD_set_ne true hsi];exact hS,H⟩
  ·have h1:=H.2 j (ready_mono hj hji);obtain⟨hjun,oj,hoj,hall⟩:=mem_ready.1 hj
   have hnot:∀e∈oj.after,Region.binds md e=true->e.on≠i:=λe he hb heq=>by
    have h1:=hall e he hb;have h0:=(mem_ready.1 hr).1;rw[heq]at h1;rcases Nat.lt_or_ge i listed.size with h'|h'
    ·simp[h']at h0 h1;rw[h0]at h1;cases h1
    ·simp[Array.getElem?_eq_none h']at h1
   have h2:=wpOp_putIf hoj (hfree j oj hoj hji hjun hnot) (λcs b=>hsel i oi cs b hi) (λcs b=>hsel j oj cs b hoj) hQ hy h1
   have hfree':∀k ok,ops[k]? =some ok->k≠i->(listed.setIfInBounds j true).getD k true=false->
     (∀e∈ok.after,Region.binds md e=true->e.on≠i)->oi.apart ops ok=true:=λk ok hk hki hun hno=>by
    refine hfree k ok hk hki ?_ hno;by_cases hjk:j=k
    ·subst hjk;exact hjun
    ·rw[getD_set_ne true hjk]at hun;exact hun
   refine wpOp_mono (λa' w' h3=> ?_) h2
   have hS':(listed.setIfInBounds j true).getD s true=true∨S w':=by
    have:=h3.2.1;rw[Array.setIfInBounds_comm _ _ (Ne.symm hji),getD_set_ne true hsi]at this;exact this
   refine⟨hS',ih (listed.setIfInBounds j true) a' w' hfree' (ready_mono hr (Ne.symm hji)) h3.1 hS' ?_⟩;rw[Array.setIfInBounds_comm _ _ hji];exact h3.2.2
theorem zO2{i:Nat}{oi:Oper}{v:Value}{fuel:Nat}{listed:Array Bool}{a:Act}{w:World}(hi:ops[i]? =some oi)
  (hs:Region.noSelect ops=true)(hf:(Region.free md ops listed i&&(Region.ready md ops listed).contains i&&(i !=s))=true)
  (hQ:∀c a w,Q (.panic c) (a.put oi.dst v) w->Q (.panic c) a w)(hy:YieldsIf P ops (λ_=>True) oi v a)(hS:listed.getD s true=true∨S w)
  (h:wpAnyS P md ops Q S s fuel (listed.setIfInBounds i true) (a.put oi.dst v) w):wpAnyS P md ops Q S s (fuel+1) listed a w:=by
 simp only[Bool.and_eq_true,bne_iff_ne]at hf;obtain⟨⟨h1,h2⟩,h5⟩:=hf;exact zN0 hi (Region.noSelect_spec hs) hQ h5 fuel listed a w (Region.free_spec hi h1) (by simpa using h2) hy hS h
theorem zP8{listed:Array Bool}{a:Act}{w:World}(hr:Region.ready md ops listed=[])(h:Q .normal a w):∀fuel,wpAnyS P md ops Q S s fuel listed a w
 |0=>⟨hr,h⟩
 | _+1=>⟨λ_=>h,by rw[hr];simp⟩
theorem zRF{i:Nat}{o:Oper}{fuel:Nat}{listed:Array Bool}{a:Act}{w:World}(hr:Region.ready md ops listed=[i])(ho:ops[i]? =some o)(hg:o.guard=none)
  (h:∀K:Act->World->Prop,(∀a' w',((listed.setIfInBounds i true).getD s true=true∨S w')->wpAnyS P md ops Q S s fuel (listed.setIfInBounds i true) a' w'->K a' w')->Oper.wp P o a w K Q):wpAnyS P md ops Q S s (fuel+1) listed a w:=by
 refine⟨λh0=>(by rw[hr]at h0;cases h0),λj hj=> ?_⟩;rw[hr]at hj;simp at hj;subst hj;unfold wpOp;rw[ho];simp only;rw[if_pos (by simp[Region.wanted,hg])];exact Or.inl (h _ λa' w' h1 h2=>⟨h1,h2⟩)
theorem zRG{i j:Nat}{o o':Oper}{fuel:Nat}{listed:Array Bool}{a:Act}{w:World}(hr:Region.ready md ops listed=[i,j])(ho:ops[i]? =some o)(hg:o.guard=none)(ho':ops[j]? =some o')(hg':o'.guard=none)
  (h:∀K:Act->World->Prop,(∀a' w',((listed.setIfInBounds i true).getD s true=true∨S w')->wpAnyS P md ops Q S s fuel (listed.setIfInBounds i true) a' w'->K a' w')->Oper.wp P o a w K Q)
  (h':∀K:Act->World->Prop,(∀a' w',((listed.setIfInBounds j true).getD s true=true∨S w')->wpAnyS P md ops Q S s fuel (listed.setIfInBounds j true) a' w'->K a' w')->Oper.wp P o' a w K Q):wpAnyS P md ops Q S s (fuel+1) listed a w:=by
 refine⟨λh0=>(by rw[hr]at h0;cases h0),λq hq=> ?_⟩;rw[hr]at hq;simp at hq;rcases hq with rfl|rfl
 ·unfold wpOp;rw[ho];simp only;rw[if_pos (by simp[Region.wanted,hg])];exact Or.inl (h _ λa' w' h1 h2=>⟨h1,h2⟩)
 ·unfold wpOp;rw[ho'];simp only;rw[if_pos (by simp[Region.wanted,hg'])];exact Or.inl (h' _ λa' w' h1 h2=>⟨h1,h2⟩)
theorem zAO{id:Nat}{a:Act}{w:World}(s:Nat)(S:World->Prop)(hm:P.follows .mixedOrders =true)(h:wpAnyS P .any ops Q S s ops.size (Array.replicate ops.size false) a w.drew):(Code.region id ops true).wp P Q a w:=
 wp_region_any hm (zLN _ _ _ _ h)
theorem tkS(i:Nat){oi:Oper}(v:Value){fuel:Nat}{listed:Array Bool}{a:Act}{w:World}(hS:S w)(hy:∀w,S w->(execOp a.eval oi).run P w= .ok (.value v) w)
  (h:wpAnyS P md ops Q S s fuel (listed.setIfInBounds i true) (a.put oi.dst v) w)(hi:ops[i]? =some oi:=by exact rfl)(hs:Region.noSelect ops=true:=by kernel_rfl)
  (hf:(Region.free md ops listed i&&(Region.ready md ops listed).contains i&&Region.waitsFor md ops s i&& !(listed.getD s true)&&(i !=s))=true:=by kernel_rfl)
  (hg:Region.wanted oi (yielded ops a.tmps)=true:=by kernel_rfl)(hQ:∀c a w,Q (.panic c) (a.put oi.dst v) w->Q (.panic c) a w:=by exact λ_ _ _ h=>h):wpAnyS P md ops Q S s (fuel+1) listed a w:=
 zP7 hi hs hf hQ (Or.inl ⟨hg,hy⟩) hS h
theorem tkZ(i:Nat){oi:Oper}(v:Value){fuel:Nat}{listed:Array Bool}{a:Act}{w:World}(hS:S w)(hy:∀w,(execOp a.eval oi).run P w= .ok (.value v) w)
  (h:wpAnyS P md ops Q S s fuel (listed.setIfInBounds i true) (a.put oi.dst v) w)(hi:ops[i]? =some oi:=by exact rfl)(hs:Region.noSelect ops=true:=by kernel_rfl)
  (hf:(Region.free md ops listed i&&(Region.ready md ops listed).contains i&&(i !=s))=true:=by kernel_rfl)
  (hg:Region.wanted oi (yielded ops a.tmps)=true:=by kernel_rfl)(hQ:∀c a w,Q (.panic c) (a.put oi.dst v) w->Q (.panic c) a w:=by exact λ_ _ _ h=>h):wpAnyS P md ops Q S s (fuel+1) listed a w:=
 zO2 hi hs hf hQ (Or.inl ⟨hg,λw _=>hy w⟩) (Or.inr hS) h
theorem wSd{listed:Array Bool}{a:Act}{w:World}(h:Q .normal a w)(fuel:Nat)(hr:Region.ready md ops listed=[]:=by kernel_rfl):wpAnyS P md ops Q S s fuel listed a w:=zP8 hr h fuel
theorem wS1(i:Nat){o:Oper}{fuel:Nat}{listed:Array Bool}{a:Act}{w:World}
  (h:∀K:Act->World->Prop,(∀a' w',((listed.setIfInBounds i true).getD s true=true∨S w')->wpAnyS P md ops Q S s fuel (listed.setIfInBounds i true) a' w'->K a' w')->Oper.wp P o a w K Q)
  (hr:Region.ready md ops listed=[i]:=by kernel_rfl)(ho:ops[i]? =some o:=by exact rfl)(hg:o.guard=none:=by exact rfl):wpAnyS P md ops Q S s (fuel+1) listed a w:=zRF hr ho hg h
theorem wS2(i j:Nat){o o':Oper}{fuel:Nat}{listed:Array Bool}{a:Act}{w:World}
  (h:∀K:Act->World->Prop,(∀a' w',((listed.setIfInBounds i true).getD s true=true∨S w')->wpAnyS P md ops Q S s fuel (listed.setIfInBounds i true) a' w'->K a' w')->Oper.wp P o a w K Q)
  (h':∀K:Act->World->Prop,(∀a' w',((listed.setIfInBounds j true).getD s true=true∨S w')->wpAnyS P md ops Q S s fuel (listed.setIfInBounds j true) a' w'->K a' w')->Oper.wp P o' a w K Q)
  (hr:Region.ready md ops listed=[i,j]:=by kernel_rfl)(ho:ops[i]? =some o:=by exact rfl)(hg:o.guard=none:=by exact rfl)(ho':ops[j]? =some o':=by exact rfl)(hg':o'.guard=none:=by exact rfl):
  wpAnyS P md ops Q S s (fuel+1) listed a w:=zRG hr ho hg ho' hg' h h'
end
end Go.Proofs.YtonmdbdopchkaaaGreatDoor
