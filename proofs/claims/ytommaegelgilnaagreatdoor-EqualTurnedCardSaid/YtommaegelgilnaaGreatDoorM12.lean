/- Lemmas. -/
import Derived.Deep.Slices
import Derived.OpenShut
import Derived.Maps.AppendAt
import Derived.Deep.RegionLawGrows
import Derived.Test.YtommaegelgilnaaGreatDoorM10
import Derived.Great.BuildSlice
import Derived.Lib.ItoaMem
import Derived.OwnWalkIn
set_option linter.all false
namespace Go.Proofs.YtommaegelgilnaaGreatDoor
open Go.RowKit
variable {K:Act->World->Prop}{L:Array Bool}{P:Program}{Q:Exit->Act->World->Prop}{Z:zD}{a:Act}{base c fuel g i id j k m n off:Nat}{cs old:Array Value}{e t:TypeId}{fs:Array Field}{news xs:List Value}{o:Oper}{op:Int}{ops:Array Oper}{v:Value}{w:World}{y3 y4:Operand}
section
open Go.ChangeShapes Go.Deep
section op
variable {H:Type} {enc:TypeId × Value->H} {P:Program} {w:World} {held:Bool}
def zCf(w:World):zD:=λb=>b<w.heap.size
abbrev zBb{H:Type}(P:Program)(t:TypeId)(d:DataW H):Prop:=(d.weights P t).all (· <=reachBytes)=true
theorem zGr{e:TypeId}:∀{l:List (DataW H)}{d:DataW H},d∈l->∀n∈d.weights P e,n∈DataW.weightsAll P e l
 |d'::r,d,hd,n,hn=>by
  simp only[DataW.weightsAll,List.mem_append];rcases List.mem_cons.1 hd with rfl|h
  ·exact Or.inl hn
  exact Or.inr (zGr h n hn)
theorem zT0{a b:List (DataW H)}(g:P.underlying t=some (.slice e))(h:zBb P t (.slice a b)){d:DataW H}(c:d∈a):zBb P e d:=by
 refine List.all_eq_true.2 λn f=>List.all_eq_true.1 h n ?_
 simp only[DataW.weights,g,List.mem_cons,List.mem_append];exact Or.inr (Or.inl (zGr c n f))
theorem zUB{a b:List (DataW H)}(c:P.underlying t=some (.slice e))(h:zBb P t (.slice a b)):(a.length+b.length)*P.bytesOf e<=reachBytes:=
 of_decide_eq_true (List.all_eq_true.1 h _ (by simp only[DataW.weights,c,List.mem_cons];exact Or.inl trivial))
theorem zT1{a:List (DataW H)}(g:P.underlying t=some (.struct fs))(h:zBb P t (.agg a)){f:Field}{d:DataW H}(c:fs[j]? =some f)(b:a[j]? =some d):zBb P f.type d:=by
 refine List.all_eq_true.2 λn e=>List.all_eq_true.1 h n ?_
 simp only[DataW.weights,g];exact DataW.weights_mem_each (j:=j) (by simpa using congrArg (Option.map (·.type)) c) b n e
theorem zRC{l:List UInt8}(h:zBb P t (.lit (.string l):DataW H)):l.length<=reachBytes:=
 of_decide_eq_true (List.all_eq_true.1 h _ (by simp[DataW.weights]))
theorem zMB{α:Type}{R:List Value->α->Prop}{k:Nat}{Z:zD}{b:Nat}(f:Z b):∀(n off:Nat),(∀i,i<n->∃cs a,(∀j u,cs[j]? =some u->w.cell? ⟨b,off+i*k+j,none⟩=some u)/\R cs a)->
  ∃l:List α,l.length=n/\zAW R k Z w l (some ⟨b,off,none⟩)
 |0,_,_=>⟨[],rfl,trivial⟩
 |n+1,off,h=>by
  obtain⟨cs,a,c,d⟩:=h 0 (by omega)
  obtain⟨l,g,m⟩:=zMB f n (off+k) (λi o=>by
   obtain⟨cs,a,c,d⟩:=h (i+1) (by omega);refine⟨cs,a,λj u e=> ?_,d⟩;have:=c j u e
   rwa[show off+(i+1)*k+j=off+k+i*k+j from by rw[Nat.add_mul];omega]at this)
  exact⟨a::l,by simp[g],b,off,cs,rfl,f,λj u e=>by simpa using c j u e,d,m⟩
theorem zFg{α:Type}{R:List Value->α->Prop}{cs:List Value}{x:DataW H × List MemPlace}(X:0<k)(I:P.underlying t=some (.slice e))(O:P.cellsOf e=k)
  (h:DataW.trod enc P w 0 (λ_=>true) held fuel t cs=some x)(K:zBb P t x.1)
  (D:∀m cs y,m<fuel->cs.length=k->DataW.trod enc P w 0 (λ_=>true) held m e cs=some y->zBb P e y.1->∃a,R cs a):
  ∃(l:List α)(A:Option Addr)(cap:Nat),cs=[.slice A l.length cap]/\l.length<=cap/\cap<=maxLen/\cap*P.bytesOf e<=reachBytes/\zAW R k (zCf w) w l A:=by
 rcases DataW.trod_slice I h with⟨rfl,rfl⟩|⟨a,len,cap,elems,rest,n,rfl,rfl,rfl,-,hl,hm,hlen,hx,hsp,-⟩
 ·exact⟨[],none,0,rfl,Nat.le_refl _,by simp,by simp,trivial⟩
 have U:=(hsp rfl).1;have C:=zUB I K;rw[List.length_map,List.length_map,hlen,U,show len+(cap-len)=cap from by omega]at C
 have d:∀i,i<len->∃cs o,(∀j u,cs[j]? =some u->w.cell? (a.add (i*k+j))=some u)/\R cs o/\cs.length=k:=by
  intro i E;have f:=hx i E;rw[O]at f;have q:i<elems.length:=by omega
  rw[List.getElem?_eq_getElem q,Option.bind_eq_some_iff]at f;obtain⟨c,z,L⟩:=f;obtain⟨-,J,M⟩:=World.cells?_some z;obtain⟨o,N⟩:=D n c _ (by omega) J L (zT0 I K (List.mem_map.2 ⟨_,List.getElem_mem q,rfl⟩));refine⟨c,o,λj u s=> ?_,N,J⟩
  have Q:j<k:=by
   rcases Nat.lt_or_ge j c.length with h|h
   ·omega
   rw[List.getElem?_eq_none h]at s;cases s
  rw[<-add_add,M j Q,s]
 rcases Nat.eq_zero_or_pos len with rfl|T
 ·exact⟨[],some a,cap,rfl,hl,hm,C,trivial⟩
 obtain⟨b,off,v⟩:=a;obtain⟨B,W,f,-,z⟩:=d 0 T;have g:=f 0 (B[0]'(by omega)) (List.getElem?_eq_getElem _);simp only[Nat.zero_mul,Nat.add_zero]at g;obtain rfl:v=none:=by simpa[Addr.add]using World.cell?_spot g
 have G:b<w.heap.size:=by simpa[Addr.add]using lt_of_cell g
 obtain⟨l,F,V⟩:=zMB (R:=R) (k:=k) (w:=w) (Z:=zCf w) (b:=b) G len off (λi E=>by
  obtain⟨c,o,f,z,-⟩:=d i E
  exact⟨c,o,λj u s=>by have:=f j u s;rw[Go.WideShapes.add_plain]at this;rwa[Nat.add_assoc],z⟩)
 exact⟨l,some ⟨b,off,none⟩,cap,by rw[F],by omega,hm,C,V⟩
theorem zIU:∀{l:List Value}{A:Option Addr},zAW (λcs v=>cs=[v]) 1 Z w l A->Row Z w A l
 |[],_,_=>Row.nil
 |v::l,A,h=>λ_=>by
  have m:=h;obtain⟨b,off,cs,e,n,x,s,t⟩:=h;refine⟨b,off,e,n,λj u a=> ?_⟩
  have g:j<(v::l).length :=by
   rcases Nat.lt_or_ge j (v::l).length with h|h
   ·exact h
   rw[List.getElem?_eq_none h]at a;cases a
  obtain⟨q,i,k,c,o,f,d⟩:=zAW.at_ m g;subst e;injection c with c;injection c with eb eo;subst eb eo;have:=f 0 u (by rw[d];rw[List.getElem?_eq_getElem g]at a;simpa using a);simpa using this
theorem zMC{n:Int}(h:(Lit.int .i64 n).wf =true):I64 n:=by
 have:=bounds_i64 h;exact this
theorem zT2{cs:List Value}{x:DataW H × List MemPlace}(u:P.underlying t=some (.slice e))(he:P.underlying e=some (.int .i64))(f:P.cellsOf e=1)(o:P.bytesOf e=8)
  (h:DataW.trod enc P w 0 (λ_=>true) held fuel t cs=some x)(z:zBb P t x.1):∃v xs,cs=[v]/\zO (zCf w) w v xs:=by
 obtain⟨l,A,c,rfl,a,d,j,k⟩:=zFg (R:=λcs(n:Int)=>cs=[.int .i64 n]/\I64 n) (Nat.zero_lt_one) u f h z (λm cs y _ _ B _=>by
  obtain⟨n,rfl,-,g⟩:=DataW.trod_int he B
  exact⟨n,rfl,zMC g⟩)
 rw[o]at j;have s:reachBytes=140737488351232:=rfl;rw[s]at j;refine⟨_,l,rfl,⟨A,c,rfl,a,by simpa[maxLen]using d,by omega,?_⟩,?_⟩
 ·clear a
  have:∀(l:List Int)(A:Option Addr),zAW (λcs(n:Int)=>cs=[.int .i64 n]/\I64 n) 1 (zCf w) w l A->zAW (λcs v=>cs=[v]) 1 (zCf w) w (l.map (.int .i64)) A:=by
   intro l
   induction l with
   |nil=>intro A _;exact trivial
   |cons n l ih=>intro A ⟨b,off,cs,e,C,f,a,d⟩;exact⟨b,off,cs,e,C,f,a.1,ih _ d⟩
  exact zIU (this _ _ k)
 intro n g;obtain⟨i,q,rfl⟩:=List.getElem_of_mem g;obtain⟨_,_,_,_,_,_,h⟩:=zAW.at_ k q;exact h.2
theorem zEa{cs:List Value}{x:DataW H × List MemPlace}(e:P.underlying t=some (.struct fs))(h:DataW.trod enc P w 0 (λ_=>true) held fuel t cs=some x)(k:zBb P t x.1):
  cs.length=P.cellsOf t/\∀(j:Nat)(f:Field),fs[j]? =some f->∃m y,m<fuel/\DataW.trod enc P w 0 (λ_=>true) held m f.type ((cs.drop f.offset).take (P.cellsOf f.type))=some y/\zBb P f.type y.1:=by
 obtain⟨xs,n,rfl,rfl,i,a,g⟩:=DataW.trod_struct e h;refine⟨i,λj f c=> ?_⟩;have d:=g j f c
 have b:j<xs.length:=by
  rw[a];rcases Nat.lt_or_ge j fs.size with h|h
  ·exact h
  rw[Array.getElem?_eq_none h]at c;cases c
 rw[List.getElem?_eq_getElem b]at d;exact⟨n,_,by omega,d,zT1 e k c (by simp[b])⟩
structure Tys (P:Program) (tInt tStr tBool tInts tFact tFacts tNode tNodes tFm tFms:TypeId):Prop where
 int:P.underlying tInt=some (.int .i64)
 intc:P.cellsOf tInt=1
 intb:P.bytesOf tInt=8
 str:P.underlying tStr=some .string
 strc:P.cellsOf tStr=1
 bool:P.underlying tBool=some .bool
 boolc:P.cellsOf tBool=1
 ints:P.underlying tInts=some (.slice tInt)
 intsc:P.cellsOf tInts=1
 fact:∃f0 f1 f2 f3,P.underlying tFact=some (.struct #[f0,f1,f2,f3])/\(f0.type=tStr/\f0.offset=0)/\(f1.type=tInt/\f1.offset=1)/\(f2.type=tInt/\f2.offset=2)/\(f3.type=tInt/\f3.offset=3)
 factc:P.cellsOf tFact=4
 factb:P.bytesOf tFact=40
 facts:P.underlying tFacts=some (.slice tFact)
 factsc:P.cellsOf tFacts=1
 node:∃f0 f1 f2 f3,P.underlying tNode=some (.struct #[f0,f1,f2,f3])/\(f0.type=tBool/\f0.offset=0)/\(f1.type=tInt/\f1.offset=1)/\(f2.type=tInts/\f2.offset=2)/\(f3.type=tInts/\f3.offset=3)
 nodec:P.cellsOf tNode=4
 nodeb:P.bytesOf tNode=64
 nodes:P.underlying tNodes=some (.slice tNode)
 nodesc:P.cellsOf tNodes=1
 fm:∃f0 f1 f2 f3 f4,P.underlying tFm=some (.struct #[f0,f1,f2,f3,f4])/\(f0.type=tInt/\f0.offset=0)/\(f1.type=tStr/\f1.offset=1)/\(f2.type=tInt/\f2.offset=2)/\(f3.type=tInt/\f3.offset=3)/\(f4.type=tFms/\f4.offset=4)
 fmc:P.cellsOf tFm=5
 fmb:P.bytesOf tFm=64
 fms:P.underlying tFms=some (.slice tFm)
 fmsc:P.cellsOf tFms=1
theorem zDv:reachBytes=140737488351232:=rfl
theorem zDG{y:DataW H × List MemPlace}(b:P.underlying t=some (.int .i64))(h:DataW.trod enc P w 0 (λ_=>true) held m t [v]=some y):∃n,v= .int .i64 n/\I64 n:=by
 obtain⟨n,e,-,a⟩:=DataW.trod_int b h;exact⟨n,by simpa using e,zMC a⟩
theorem zH1{y:DataW H × List MemPlace}(a:P.underlying t=some .string)(h:DataW.trod enc P w 0 (λ_=>true) held m t [v]=some y)(b:zBb P t y.1):∃s:ByteArray,v= .string s/\s.size<=140737488355328:=by
 obtain⟨s,e,rfl,-⟩:=DataW.trod_string a h;have:=zRC b;rw[zDv]at this;have c:s.size=s.data.toList.length:=by rw[Array.length_toList];rfl
 exact⟨s,List.singleton_inj.1 e,by omega⟩
variable {tInt tStr tBool tInts tFact tFacts tNode tNodes tFm tFms:TypeId}
theorem zSX(T:Tys P tInt tStr tBool tInts tFact tFacts tNode tNodes tFm tFms){y:DataW H × List MemPlace}(h:DataW.trod enc P w 0 (λ_=>true) held m tFacts [v]=some y)(c:zBb P tFacts y.1):∃xs,Facts (zCf w) w v xs:=by
 obtain⟨l,A,b,e,C,D,E,d⟩:=zFg (R:=λcs(f:zE)=>cs=zE.cells f/\f.fit) (by decide) T.facts T.factc h c (λm cs y _ I L c=>by
  obtain⟨t,u,z,B,F,⟨o,W⟩,⟨t1,X⟩,⟨t2,Y⟩,⟨t3,Z⟩⟩:=T.fact;obtain⟨-,a⟩:=zEa F L c
  match cs,I with
  |[c0,c1,c2,c3],_=>
  obtain⟨m0,y0,-,g,q⟩:=a 0 t rfl;obtain⟨m1,y1,-,j,w1⟩:=a 1 u rfl;obtain⟨m2,y2,-,k,w2⟩:=a 2 z rfl;obtain⟨m3,y3,-,n,w3⟩:=a 3 B rfl;rw[o,W,T.strc]at g;rw[o]at q;rw[t1,X,T.intc]at j;rw[t2,Y,T.intc]at k;rw[t3,Z,T.intc]at n;obtain⟨s,rfl,J⟩:=zH1 T.str g q;obtain⟨Q,rfl,M⟩:=zDG T.int j;obtain⟨U,rfl,N⟩:=zDG T.int k;obtain⟨V,rfl,O⟩:=zDG T.int n
  exact⟨⟨s,Q,U,V⟩,rfl,J,M,N,O⟩)
 rw[T.factb,zDv]at E;obtain rfl:v=_:=by simpa using e
 refine⟨l,⟨A,b,rfl,C,by simpa[maxLen]using D,by omega,d.imp (λ_ _ h=>h.1) (zA.refl _ _) (λ_ h=>h)⟩,λx K=> ?_⟩;obtain⟨i,G,rfl⟩:=List.getElem_of_mem K;obtain⟨_,_,_,_,_,_,h⟩:=zAW.at_ d G;exact h.2
theorem zUW(T:Tys P tInt tStr tBool tInts tFact tFacts tNode tNodes tFm tFms):∀(m:Nat)(cs:List Value)(y:DataW H × List MemPlace),cs.length=5->DataW.trod enc P w 0 (λ_=>true) held m tFm cs=some y->zBb P tFm y.1->∃f,FmR (zCf w) w f cs:=by
 intro m
 induction m using Nat.strongRecOn with
 |ind m ih=>
 intro cs y c g d;obtain⟨v,x,z,B,C,I,⟨t0,W⟩,⟨o,X⟩,⟨t2,Y⟩,⟨t3,Z⟩,⟨q,o4⟩⟩:=T.fm;obtain⟨-,a⟩:=zEa I g d
 match cs,c with
 |[c0,c1,c2,c3,c4],_=>
 obtain⟨m0,y0,-,h,w0⟩:=a 0 v rfl;obtain⟨m1,y1,-,i,t⟩:=a 1 x rfl;obtain⟨m2,y2,-,j,w2⟩:=a 2 z rfl;obtain⟨m3,y3,-,k,w3⟩:=a 3 B rfl;obtain⟨m4,y4,N,n,u⟩:=a 4 C rfl;rw[t0,W,T.intc]at h;rw[o,X,T.strc]at i;rw[t2,Y,T.intc]at j;rw[t3,Z,T.intc]at k;rw[q,o4,T.fmsc]at n;rw[o]at t;rw[q]at u;obtain⟨Q,rfl,K⟩:=zDG T.int h;obtain⟨s,rfl,J⟩:=zH1 T.str i t;obtain⟨U,rfl,L⟩:=zDG T.int j;obtain⟨V,rfl,M⟩:=zDG T.int k;obtain⟨l,A,b,e,D,E,F,G⟩:=zFg (R:=λcs f=>FmR (zCf w) w f cs) (by decide) T.fms T.fmc n u (λO cs y hm c g d=>ih O (by omega) cs y c g d);rw[T.fmb,zDv]at F;obtain rfl:c4=_:=by simpa using e
 refine⟨.mk Q s U V l,?_⟩;unfold FmR;exact⟨K,J,L,M,A,b,rfl,D,by simpa[maxLen]using E,by omega,zAD.of_seq G⟩
end op
end
section
variable {P:Program} {ops:Array Oper} {rest:List Oper} {o:Oper} {a:Act} {w:World} {Q:Exit->Act->World->Prop}
structure zC2 (P:Program) (e:TypeId) (size bytes:Nat):Prop where
 pos:0<size
 is:∃i z,P.info? e=some i/\i.zero=some z/\i.size=size/\i.bytes=bytes/\z.cells.size=size
theorem zDH{P:Program}{z:Value}{a b:Nat}(h:(P.info? e).map (λi=>(i.zero,i.size,i.bytes))=some (some z,a,b))(f:z.cells.size=a)(d:0<a):zC2 P e a b:=by
 cases c:P.info? e with
 |none=>rw[c]at h;cases h
 |some i=>
 rw[c]at h;simp only[Option.map_some,Option.some.injEq,Prod.mk.injEq]at h;exact⟨d,i,z,c,h.1,h.2.1,h.2.2,f⟩
theorem zHL{t ty e:TypeId}{a b:Nat}(J:P.underlying t=some (.slice e))(E:zC2 P e a b)(h:w.ownsRow base e a v n xs)
  (H:news.length=m*a)(F:∀j u,news[j]? =some u->w.cell? ⟨g,off+j,none⟩=some u)(y:∀u∈news,u.oneCell'=true)(o:n+m<=maxLen)(D:(n+m)*b<=140737488355328)(d:base<=w.heap.size):
  ∃f w',(Builtin.append_ #[t,t] ty #[v,.slice (some ⟨g,off,none⟩) m c]).run P w= .ok f w'/\w'.ownsRow base e a f (n+m) (xs++news)/\w.grownBy w' v.ownBlock/\(f.ownBlock=v.ownBlock\/f.ownBlock=some w.heap.size):=by
 obtain⟨I,i,z,G,L,s,q,x⟩:=E
 obtain⟨f,w',k,A,B,_,C⟩:=run_append_own_at (P:=P) w base t ty e i z a b J G L s q x I v n xs h ⟨g,off,none⟩ m c news H
  (λj u K=>by rw[show(⟨g,off,none⟩:Addr).add j=⟨g,off+j,none⟩ from by unfold Addr.add;split<;>simp_all];exact F j u K) y o D d
 exact⟨f,w',k,A,B,C⟩
theorem zh(z:o.guard=none)(s x:Operand)(t:TypeId)(J:o.op= .call {callee:= .builtin .append,args:=#[s,x],argTypes:=#[t,t]})
  {b d:Nat}(M:P.underlying t=some (.slice e))(E:zC2 P e b d)(L:a.eval s=v)(k:w.ownsRow base e b v n xs)
  (N:a.eval x= .slice (some ⟨g,off,none⟩) m c)(I:news.length=m*b)(H:∀j u,news[j]? =some u->w.cell? ⟨g,off+j,none⟩=some u)(A:∀u∈news,u.oneCell'=true)(y:n+m<=maxLen)(G:(n+m)*d<=140737488355328)(f:base<=w.heap.size)
  (h:∀i w',w'.ownsRow base e b i (n+m) (xs++news)->w.grownBy w' v.ownBlock->(i.ownBlock=v.ownBlock\/i.ownBlock=some w.heap.size)->wpList P ops Q rest (a.put o.dst i) w'):wpList P ops Q (o::rest) a w:=
 wpList_plain z λK F=>by
  obtain⟨i,w',q,B,C,D⟩:=zHL (ty:=o.type) M E k I H A y G f;unfold Oper.wp execOp;simp only[J,resolve,invoke,builtin,Sem.run_bind,Sem.run_pure,Result.andThen_ok,List.map_toArray,List.map_cons,List.map_nil,L,N];rw[q];exact F _ _ (h i w' B C D)
end
theorem zAs{B:Nat}{a w w':World}{c n:Nat}(h:Below B a w)(b:w.ownsRow base e c v n xs)(g:w.grownBy w' v.ownBlock)(d:B<=w.heap.size)(f:B<=base):Below B a w':=
 h.grown g d (λk i=>Nat.le_trans f (b.lt k i).1)
theorem one_cell{u:Value}(h:w.cell? ⟨g,0,none⟩=some u):∀j x,[u][j]? =some x->w.cell? ⟨g,0+j,none⟩=some x:=λj x a=>by
 cases j with
 |zero=>simp at a;subst a;simpa using h
 |succ j=>simp at a
def zNP(l:List UInt8):Nat:=l.foldl (λa c=>a*10+(c.toNat-48)) 0
theorem zFh{d:Nat}(h:d<10):(UInt8.ofNat (48+d)).toNat =48+d:=by
 show(48+d)%256=_;omega
theorem zIV(u:Nat):zNP (Lib.decDigits u)=u:=by
 induction u using Nat.strongRecOn with
 | _ u ih=>
 rw[Lib.decDigits];by_cases h:u<10
 ·rw[dif_pos h];unfold zNP;rw[List.foldl_cons,List.foldl_nil,zFh h];omega
 rw[dif_neg h];have:=ih (u / 10) (by omega);unfold zNP at this⊢;rw[List.foldl_append,this,List.foldl_cons,List.foldl_nil,zFh (by omega)];omega
def zBO(c:UInt8):Prop:=48<=c.toNat/\c.toNat<=57
theorem zCm(u:Nat):∀c∈Lib.decDigits u,zBO c:=by
 induction u using Nat.strongRecOn with
 | _ u ih=>
 intro c a;rw[Lib.decDigits]at a;by_cases h:u<10
 ·rw[dif_pos h]at a;rw[List.mem_singleton]at a;rw[a];unfold zBO;rw[zFh h];omega
 rw[dif_neg h]at a;rcases List.mem_append.1 a with a|a
 ·exact ih (u / 10) (by omega) c a
 rw[List.mem_singleton]at a;rw[a];unfold zBO;rw[zFh (by omega)];omega
theorem zIW{u v:Nat}(h:Lib.decDigits u=Lib.decDigits v):u=v:=by
 rw[<-zIV u,h,zIV]
theorem zG0{m n:Int}(h:Lib.itoa m=Lib.itoa n):m=n:=by
 unfold Lib.itoa at h;by_cases b:m<0
 ·by_cases a:n<0
  ·rw[if_pos b,if_pos a]at h;injection h with _ h;have:=zIW h;omega
  rw[if_pos b,if_neg a]at h;have:=zCm n.toNat 45 (by rw[<-h];simp);unfold zBO at this;simp at this
 by_cases a:n<0
 ·rw[if_neg b,if_pos a]at h;have:=zCm m.toNat 45 (by rw[h];simp);unfold zBO at this;simp at this
 rw[if_neg b,if_neg a]at h;have:=zIW h;omega
theorem zP7(n:Int):∀c∈Lib.itoa n,zBO c\/c=45:=λc a=>by
 unfold Lib.itoa at a;split at a
 ·rcases List.mem_cons.1 a with h|h
  ·exact Or.inr h
  exact Or.inl (zCm _ c h)
 exact Or.inl (zCm _ c a)
theorem zH2{n:Int}{s:UInt8}(a:¬zBO s)(b:s≠45):s∉Lib.itoa n:=λh=>by
 rcases zP7 n s h with h|h
 ·exact a h
 exact b h
theorem zDw{s:UInt8}:∀{A c B d:List UInt8},s∉A->s∉c->A++s::B=c++s::d->A=c/\B=d
 |[],[],_,_,_,_,h=>by injection h with _ h;exact⟨rfl,h⟩
 |[],a::c,_,_,_,h2,h=>by injection h with h _;exact absurd (by rw[h];simp) h2
 |a::A,[],_,_,h1,_,h=>by injection h with h _;exact absurd (by rw[<-h];simp) h1
 |a::A,b::c,_,_,h1,h2,h=>by
  injection h with h h';obtain⟨e,f⟩:=zDw (λh=>h1 (List.mem_cons_of_mem _ h)) (λh=>h2 (List.mem_cons_of_mem _ h)) h';exact⟨by rw[h,e],f⟩
theorem zIa{x i:UInt8}(k:¬zBO x)(f:¬zBO i):∀{A d B j:List UInt8},(∀c∈A,zBO c)->(∀c∈d,zBO c)->A++x::B=d++i::j->A=d/\x::B=i::j
 |[],[],_,_,_,_,h=>⟨rfl,h⟩
 |[],a::d,_,_,_,h2,h=>by injection h with h _;exact absurd (h2 a (by simp)) (h▸k)
 |a::A,[],_,_,h1,_,h=>by injection h with h _;exact absurd (h1 a (by simp)) (h▸f)
 |a::A,b::d,_,_,h1,h2,h=>by
  injection h with h h';obtain⟨e,m⟩:=zIa k f (λc g=>h1 c (List.mem_cons_of_mem _ g)) (λc g=>h2 c (List.mem_cons_of_mem _ g)) h';exact⟨by rw[h,e],m⟩
def zCM(l:List Int):List UInt8:=l.flatMap λk=>Lib.itoa k++[44]
theorem zE3(k:Int)(l:List Int):zCM (k::l)=Lib.itoa k++44::zCM l:=by unfold zCM;rw[List.flatMap_cons];simp
theorem zK6(l:List Int):(58:UInt8)∉zCM l:=λh=>by
 unfold zCM at h;obtain⟨k,_,a⟩:=List.mem_flatMap.1 h;rcases List.mem_append.1 a with a|a
 ·exact zH2 (by unfold zBO;decide) (by decide) a
 simp at a
theorem zIb:∀{l m:List Int},zCM l=zCM m->l=m
 |[],[],_=>rfl
 |[],k::m,h=>by rw[zE3]at h;have:=congrArg List.length h;simp[zCM]at this
 |k::l,[],h=>by rw[zE3]at h;have:=congrArg List.length h;simp[zCM]at this
 |k::l,k'::m,h=>by
  rw[zE3,zE3]at h;have a:∀n,(44:UInt8)∉Lib.itoa n:=λn=>zH2 (by unfold zBO;decide) (by decide)
  obtain⟨e,b⟩:=zDw (a k) (a k') h;rw[zG0 e,zIb b]
def zDx(n:zB):List UInt8:=(if n.leaf=true then 49 else 48)::(Lib.itoa n.fact++58::(zCM n.cuts++58::zCM n.kids))
theorem zP8{m n:zB}(h:zDx m=zDx n):m=n:=by
 obtain⟨a,b,c,d⟩:=m;obtain⟨e,g,i,q⟩:=n;unfold zDx at h;injection h with h1 h;simp only at h h1;have f:∀n,(58:UInt8)∉Lib.itoa n:=λn=>zH2 (by unfold zBO;decide) (by decide)
 obtain⟨j,h⟩:=zDw (f b) (f g) h;obtain⟨k,h⟩:=zDw (zK6 c) (zK6 i) h;have o:a=e:=by cases a<;>cases e<;>simp_all
 rw[zG0 j,zIb k,zIb h,o]
mutual
def zBN:Fm->List UInt8
 | .mk op nm cm nu kids=>Lib.itoa op++nm.data.toList++44::(Lib.itoa cm++44::(Lib.itoa nu++40::(zA1 kids++[41])))
def zA1:List Fm->List UInt8
 |[]=>[]
 |k::r=>zBN k++zA1 r
end
mutual
def zDI:Fm->Bool
 | .mk op nm _ _ kids=>decide (1<=op)&&decide (op<=6)&&(if op=3 then zB6 nm.data.toList else decide (nm=⟨#[]⟩))&&zDP kids
def zDP:List Fm->Bool
 |[]=>true
 |k::r=>zDI k&&zDP r
end
theorem zGT(a:1<=op)(b:op<=6):Lib.itoa op=[UInt8.ofNat (48+op.toNat)]:=by
 unfold Lib.itoa;rw[if_neg (by omega),Lib.decDigits,dif_pos (by omega)]
theorem zG1(a:1<=op)(b:op<=6):(UInt8.ofNat (48+op.toNat)).toNat =48+op.toNat:=zFh (by omega)
theorem zUC{op a:Int}(d:1<=op)(e:op<=6)(b:1<=a)(c:a<=6)(h:UInt8.ofNat (48+op.toNat)=UInt8.ofNat (48+a.toNat)):op=a:=by
 have:=congrArg UInt8.toNat h;rw[zG1 d e,zG1 b c]at this;omega
def zUD(l:List UInt8):Prop:=(44:UInt8)∉l/\∀r,∃x B,¬zBO x/\l++44::r=x::B
theorem zGs{nm:ByteArray}(h:(if op=3 then zB6 nm.data.toList else decide (nm=⟨#[]⟩))=true):zUD nm.data.toList:=by
 split at h
 ·generalize nm.data.toList=l at*
  cases l with
  |nil=>simp[zB6]at h
  |cons c r=>
  unfold zB6 at h;simp only[Bool.and_eq_true,List.all_eq_true]at h;obtain⟨⟨b,f⟩,_⟩:=h
  have a:zBy c=true->c≠44/\¬zBO c:=λh=>by
   unfold zBy at h;simp only[Bool.or_eq_true,decide_eq_true_eq]at h;refine⟨λe=> ?_,λe=> ?_⟩
   ·subst e;simp at h
   unfold zBO at e;omega
  refine⟨λd=> ?_,λg=>⟨c,r++44::g,(a b).2,rfl⟩⟩;rcases List.mem_cons.1 d with e|e
  ·exact(a b).1 e.symm
  have:=f _ e;revert this;decide
 have e:nm.data.toList=[]:=by rw[decide_eq_true_eq]at h;rw[h]
 rw[e];exact⟨by simp,λr=>⟨44,r,by unfold zBO;decide,rfl⟩⟩
theorem zSY{a b:ByteArray}(h:a.data.toList=b.data.toList):a=b:=by
 cases a;cases b;simp only at h;congr 1;exact Array.toList_inj.1 h
mutual
theorem zK7:∀{f g:Fm}{r r':List UInt8},zDI f=true->zDI g=true->zBN f++r=zBN g++r'->f=g/\r=r'
 | .mk op nm cm nu kids,.mk op' nm' cm' nu' kids',r,r',h1,h2,h=>by
  rw[zDI]at h1 h2;simp only[Bool.and_eq_true,decide_eq_true_eq]at h1 h2;obtain⟨⟨⟨b,c⟩,j⟩,k⟩:=h1;obtain⟨⟨⟨d,e⟩,m⟩,o⟩:=h2;rw[zBN,zBN,zGT b c,zGT d e]at h;simp only[List.cons_append,List.nil_append,List.append_assoc]at h;injection h with h0 h;have v:=(zGs j).1;have w:=(zGs m).1;have i:∀n,(44:UInt8)∉Lib.itoa n:=λn=>zH2 (by unfold zBO;decide) (by decide)
  have a:∀n,(40:UInt8)∉Lib.itoa n:=λn=>zH2 (by unfold zBO;decide) (by decide)
  obtain⟨q,h⟩:=zDw v w h;obtain⟨s,h⟩:=zDw (i cm) (i cm') h;obtain⟨t,h⟩:=zDw (a nu) (a nu') h;obtain⟨u,h⟩:=zJa k o h;exact⟨by rw[zUC b c d e h0,zSY q,zG0 s,zG0 t,u],h⟩
theorem zJa:∀{l m:List Fm}{r r':List UInt8},zDP l=true->zDP m=true->zA1 l++41::r=zA1 m++41::r'->l=m/\r=r'
 |[],[],_,_,_,_,h=>by simp[zA1]at h;exact⟨rfl,h⟩
 |[],.mk op nm cm nu kids::m,r,r',_,h2,h=>by
  rw[zDP,zDI]at h2;simp only[Bool.and_eq_true,decide_eq_true_eq]at h2;rw[zA1,zA1,zBN,zGT h2.1.1.1.1 h2.1.1.1.2]at h;simp only[List.cons_append,List.nil_append]at h;injection h with h _;have:=congrArg UInt8.toNat h;rw[zG1 h2.1.1.1.1 h2.1.1.1.2]at this;simp at this;omega
 | .mk op nm cm nu kids::l,[],r,r',h1,_,h=>by
  rw[zDP,zDI]at h1;simp only[Bool.and_eq_true,decide_eq_true_eq]at h1;rw[zA1,zA1,zBN,zGT h1.1.1.1.1 h1.1.1.1.2]at h;simp only[List.cons_append,List.nil_append]at h;injection h with h _;have:=congrArg UInt8.toNat h;rw[zG1 h1.1.1.1.1 h1.1.1.1.2]at this;simp at this;omega
 |f::l,g::m,r,r',h1,h2,h=>by
  rw[zDP]at h1 h2;simp only[Bool.and_eq_true]at h1 h2;rw[zA1,zA1,List.append_assoc,List.append_assoc]at h;obtain⟨e,h⟩:=zK7 h1.1 h2.1 h;obtain⟨a,h⟩:=zJa h1.2 h2.2 h;exact⟨by rw[e,a],h⟩
end
def zCc(i:Nat)(f:Fm):List UInt8:=Lib.itoa i++zBN f
theorem zSZ{f g:Fm}(d:zDI f=true)(q:zDI g=true)(h:zCc i f=zCc j g):i=j/\f=g:=by
 obtain⟨op,W,H,P,kids⟩:=f;obtain⟨m,O,s,w,b⟩:=g;have Q:=d;have R:=q;rw[zDI]at d q;simp only[Bool.and_eq_true,decide_eq_true_eq]at d q;obtain⟨⟨⟨y,z⟩,F⟩,U⟩:=d;obtain⟨⟨⟨A,C⟩,G⟩,V⟩:=q
 have M:∀n:Nat,∀c∈Lib.itoa (n:Int),zBO c:=λn c a=>by
  unfold Lib.itoa at a;rw[if_neg (by omega)]at a;exact zCm _ c a
 have k:=h;unfold zCc at k;unfold zCc at h;rw[zBN,zBN,zGT y z,zGT A C]at h;obtain⟨x,B,N,J⟩:=(zGs F).2 (Lib.itoa H++44::(Lib.itoa P++40::(zA1 kids++[41])));obtain⟨T,E,v,u⟩:=(zGs G).2 (Lib.itoa s++44::(Lib.itoa w++40::(zA1 b++[41])))
 have K:(Lib.itoa (i:Int)++[UInt8.ofNat (48+op.toNat)])++x::B=(Lib.itoa (j:Int)++[UInt8.ofNat (48+m.toNat)])++T::E:=by
  rw[<-J,<-u];simpa using h
 have D:∀(n:Nat)(o:Int),1<=o->o<=6->∀c∈Lib.itoa (n:Int)++[UInt8.ofNat (48+o.toNat)],zBO c:=λn o d L c a=>by
  rcases List.mem_append.1 a with a|a
  ·exact M n c a
  rw[List.mem_singleton]at a;rw[a];unfold zBO;rw[zG1 d L];omega
 obtain⟨e,_⟩:=zIa N v (D i op y z) (D j m A C) K;have I:=(List.append_inj' e rfl).1;have t:i=j:=by have:=zG0 I;omega
 subst t;have:=List.append_cancel_left k;exact⟨rfl,(zK7 (r:=[]) (r':=[]) Q R (by simpa using this)).1⟩
def lv:List Nat->Nat
 |[]=>0
 |x::r=>x+1000000000*lv r
abbrev zp:=List (Int × Int)
def zCN(t:Int):Bool:=decide (0<=t)&&decide (t<=144001439)
def z6(z:zp)(i:Nat):Int × Int:=z.getD i (0,0)
def zIc(z:zp)(i:Nat):Int:=if i=0 then-1 else(z6 z (i-1)).1
def zDC(z:zp)(i:Nat):Bool:=(decide (0<i)||decide ((z6 z i).1=0))&&decide (zIc z i<(z6 z i).1)&&zCN (z6 z i).1&&decide (-840<=(z6 z i).2)&&decide ((z6 z i).2<=840)
def zBn(z:zp):Bool:=(List.range z.length).all (zDC z)&&decide (0<z.length)&&decide (z.length<=20)
def zC7(z:zp)(i:Nat):Int:=if i+1<z.length then(z6 z (i+1)).1-1 else 144001439
def zCT(z:zp)(loc:Int)(i:Nat):Int:=max (z6 z i).1 (loc-(z6 z i).2)
def zDQ(z:zp)(loc:Int):Nat->Nat->Int × Int
 |0,_=>(0,10)
 |n+1,i=>if zCT z loc i<=zC7 z i then(zCT z loc i,0)else zDQ z loc n (i+1)
def zCn(z:zp)(day minute:Int):Int × Int:=
 if zBn z=false\/minute<0\/1440<=minute then(0,1)else if 100001<day then(0,10)else zDQ z (max day (-2)*1440+minute) z.length 0
def zA4(z:zp)(day:Int):Int × Int:=zCn z day 0
theorem zHh{z:zp}:zBn z=true↔(∀i,i<z.length->zDC z i=true)/\0<z.length/\z.length<=20:=by
 unfold zBn;simp only[Bool.and_eq_true,decide_eq_true_eq,List.all_eq_true,List.mem_range,and_assoc]
theorem zF7{z:zp}(h:zDC z i=true):0<=(z6 z i).1/\(z6 z i).1<=144001439/\ -840<=(z6 z i).2/\(z6 z i).2<=840:=by
 unfold zDC zCN at h;simp only[Bool.and_eq_true,decide_eq_true_eq]at h;obtain⟨⟨⟨d,a⟩,b⟩,c⟩:=h;exact⟨a.1,a.2,b,c⟩
theorem zMD{z:zp}{loc:Int}(a:∀i,i<z.length->zDC z i=true):∀(n i:Nat),i+n=z.length->(zDQ z loc n i).2=0->zCN (zDQ z loc n i).1=true
 |0,_,_,h=>absurd h (by simp[zDQ])
 |n+1,i,hl,h=>by
  unfold zDQ at h⊢;have d:=zF7 (a i (by omega));by_cases c:zCT z loc i<=zC7 z i
  ·rw[if_pos c]at h⊢
   have e:zC7 z i<=144001439:=by
    unfold zC7;split
    ·rename_i b;have:=zF7 (a (i+1) b);omega
    exact Int.le_refl _
   have b:(z6 z i).1<=zCT z loc i:=Int.le_max_left _ _;unfold zCN;rw[Bool.and_eq_true,decide_eq_true_eq,decide_eq_true_eq];exact⟨by show 0<=zCT z loc i;omega,by show zCT z loc i<=_;omega⟩
  rw[if_neg c]at h⊢;exact zMD a n (i+1) (by omega) h
theorem zRD{z:zp}{a:Int}(c:zBn z=true)(h:(zA4 z a).2=0):zCN (zA4 z a).1=true:=by
 unfold zA4 zCn at h⊢;rw[c]at h⊢;rw[if_neg (by simp)]at h⊢;by_cases b:100001<a
 ·rw[if_pos b]at h;exact absurd h (by decide)
 rw[if_neg b]at h⊢;exact zMD (zHh.1 c).1 _ _ (by omega) h
def zB7{α:Type}(R:List Value->α->Prop)(k:Nat):List α->List (List Value)->Prop
 |[],[]=>True
 |f::fs,c::cs=>(R c f/\c.length=k)/\zB7 R k fs cs
 | _,_=>False
section each
variable {α:Type} {R R':List Value->α->Prop} {k:Nat}
theorem zB7.imp(a:∀cs x,R cs x->R' cs x):∀{fs:List α}{csl:List (List Value)},zB7 R k fs csl->zB7 R' k fs csl
 |[],[],_=>trivial
 | _::_,_::_,h=>⟨⟨a _ _ h.1.1,h.1.2⟩,zB7.imp a h.2⟩
 |[],_::_,h=>h.elim
 | _::_,[],h=>h.elim
theorem zB7.append:∀{fs b:List α}{csl a:List (List Value)},zB7 R k fs csl->zB7 R k b a->zB7 R k (fs++b) (csl++a)
 |[],_,[],_,_,h=>h
 | _::_,_,_::_,_,h,h'=>⟨h.1,zB7.append h.2 h'⟩
 |[],_,_::_,_,h,_=>h.elim
 | _::_,_,[],_,h,_=>h.elim
theorem zB7.one{f:α}{c:List Value}(h:R c f)(a:c.length=k):zB7 R k [f] [c]:=⟨⟨h,a⟩,trivial⟩
theorem zB7.size:∀{fs:List α}{csl:List (List Value)},zB7 R k fs csl->csl.flatten.length=fs.length*k
 |[],[],_=>by simp
 | _::fs,c::cs,h=>by rw[List.flatten_cons,List.length_append,zB7.size h.2,h.1.2,List.length_cons,Nat.succ_mul];omega
 |[],_::_,h=>h.elim
 | _::_,[],h=>h.elim
theorem zB7.rows{Z:zD}{w:World}{b:Nat}(d:Z b):∀{fs:List α}{csl:List (List Value)}{off:Nat},zB7 R k fs csl->(∀j u,csl.flatten[j]? =some u->w.cell? ⟨b,off+j,none⟩=some u)->zAW R k Z w fs (some ⟨b,off,none⟩)
 |[],[],_,_,_=>by unfold zAW;trivial
 |f::fs,c::cs,off,h,hc=>by
  unfold zAW;have e:c.length=k:=h.1.2;refine⟨b,off,c,rfl,d,λj u a=> ?_,h.1.1,zB7.rows d h.2 λj u a=> ?_⟩
  ·refine hc j u ?_;rw[List.flatten_cons,List.getElem?_append_left (by have:=List.getElem?_eq_some_iff.1 a;obtain⟨h,_⟩:=this;exact h)];exact a
  have:=hc (k+j) u (by rw[List.flatten_cons,List.getElem?_append_right (by omega)];rw[show k+j-c.length=j by omega];exact a);rwa[show off+k+j=off+(k+j) by omega]
 |[],_::_,_,h,_=>h.elim
 | _::_,[],_,h,_=>h.elim
end each
theorem zEt{E:Prop}
  (y:o.guard=none)(s x:Operand)(t:TypeId)(I:o.op= .call {callee:= .builtin .append,args:=#[s,x],argTypes:=#[t,t]})
  {b d:Nat}(L:P.underlying t=some (.slice e))(El:zC2 P e b d)(J:a.eval s=v)(h:w.ownsRow base e b v n xs)
  (N:a.eval x= .slice (some ⟨g,off,none⟩) m c)(H:news.length=m*b)(G:∀j u,news[j]? =some u->w.cell? ⟨g,off+j,none⟩=some u)(z:∀u∈news,u.oneCell'=true)(q:n+m<=maxLen)(F:(n+m)*d<=140737488355328)(f:base<=w.heap.size)
  (D:∀k w',w'.ownsRow base e b k (n+m) (xs++news)->w.grownBy w' v.ownBlock->(k.ownBlock=v.ownBlock\/k.ownBlock=some w.heap.size)->K (a.put o.dst k) w'):
  if Region.wanted o (yielded ops a.tmps)=true then Oper.wp P o a w K Q else E:=by
 have M:Region.wanted o (yielded ops a.tmps)=true:=by simp[Region.wanted,y]
 rw[if_pos M];obtain⟨k,w',i,A,B,C⟩:=zHL (ty:=o.type) L El h H G z q F f;unfold Oper.wp execOp;simp only[I,resolve,invoke,builtin,Sem.run_bind,Sem.run_pure,Result.andThen_ok,List.map_toArray,List.map_cons,List.map_nil,J,N];rw[i];exact D _ _ A B C
theorem zDR
  (s x:Operand)(t:TypeId)(G:o.op= .call {callee:= .builtin .append,args:=#[s,x],argTypes:=#[t,t]})
  {b d:Nat}(I:P.underlying t=some (.slice e))(El:zC2 P e b d)(H:a.eval s=v)(h:w.ownsRow base e b v n xs)
  (J:a.eval x= .slice (some ⟨g,off,none⟩) m c)(F:news.length=m*b)(E:∀j u,news[j]? =some u->w.cell? ⟨g,off+j,none⟩=some u)(y:∀u∈news,u.oneCell'=true)(q:n+m<=maxLen)(D:(n+m)*d<=140737488355328)(f:base<=w.heap.size)
  (C:∀k w',w'.ownsRow base e b k (n+m) (xs++news)->w.grownBy w' v.ownBlock->(k.ownBlock=v.ownBlock\/k.ownBlock=some w.heap.size)->K (a.put o.dst k) w'):
  Oper.wp P o a w K Q:=by
 obtain⟨k,w',i,z,A,B⟩:=zHL (ty:=o.type) I El h F E y q D f;unfold Oper.wp execOp;simp only[G,resolve,invoke,builtin,Sem.run_bind,Sem.run_pure,Result.andThen_ok,List.map_toArray,List.map_cons,List.map_nil,H,J];rw[i];exact C _ _ z A B
theorem zKE
  (s x:Operand)(t:TypeId)(U:o.op= .call {callee:= .builtin .append,args:=#[s,x],argTypes:=#[t,t]})
  {b d:Nat}(X:P.underlying t=some (.slice e))(El:zC2 P e b d){H f n cap:Nat}{olds:List Value}(W:a.eval s= .slice (some ⟨H,f,none⟩) n cap)
  (C:olds.length=n*b)(q:∀j u,olds[j]? =some u->w.cell? ⟨H,f+j,none⟩=some u)
  (Y:a.eval x= .slice (some ⟨g,off,none⟩) m c)(T:news.length=m*b)(O:∀j u,news[j]? =some u->w.cell? ⟨g,off+j,none⟩=some u)(k:cap<n+m)(y:n+m<=maxLen)(N:(n+m)*d<=140737488355328)
  (M:∀I w',w'.ownsRow w.heap.size e b I (n+m) (olds++news)->w.grownBy w' none->K (a.put o.dst I) w'):
  Oper.wp P o a w K Q:=by
 obtain⟨V,i,z,R,Z,D,A,G⟩:=El;have h:∀(B F j:Nat),(⟨B,F,none⟩:Addr).add j=⟨B,F+j,none⟩:=λB F j=>by unfold Addr.add;split<;>simp_all
 obtain⟨I,w',v,J,L⟩:=run_append_arg_grows (P:=P) w t o.type e i z b d X R Z D A G V ⟨H,f,none⟩ n cap olds C (λj u E=>by rw[h];exact q j u E) ⟨g,off,none⟩ m c news T (λj u E=>by rw[h];exact O j u E) k y N;unfold Oper.wp execOp;simp only[U,resolve,invoke,builtin,Sem.run_bind,Sem.run_pure,Result.andThen_ok,List.map_toArray,List.map_cons,List.map_nil,W,Y];rw[v];exact M _ _ J L
section
variable {P:Program} {ops:Array Oper} {Q:Exit->Act->World->Prop} {md:Region.Mode} {S:World->Prop} {s l n:Nat}
def zK8(L:List Bool):Nat:=(L.filter λb=> !b).length
theorem zId:∀(L:List Bool)(j:Nat),L[j]? =some false->zK8 (L.set j true)+1=zK8 L
 |[],j,h=>by simp at h
 |b::r,0,h=>by
  simp at h;subst h;simp[zK8]
 |b::r,j+1,h=>by
  have:=zId r j (by simpa using h);unfold zK8 at this⊢;rw[List.set_cons_succ,List.filter_cons,List.filter_cons];cases b<;>simp<;>omega
theorem zHi(h:L.getD j true=false):L.toList[j]? =some false:=by
 rw[Array.getElem?_toList];rw[Array.getD_eq_getD_getElem?]at h
 cases a:L[j]? with
 |none=>rw[a]at h;cases h
 |some b=>rw[a]at h;simp at h;rw[h]
def zNQ(md:Region.Mode)(ops:Array Oper):Bool:=(List.range ops.size).all λj=>match ops[j]? with|some o=>o.after.all (λe=> !Region.binds md e||decide (e.on<j))|none=>true
theorem zK9(c:zNQ md ops=true)(m:L.size=ops.size)(h:Region.ready md ops L=[]):∀j,L.getD j true=true:=by
 intro j
 induction j using Nat.strongRecOn with
 |ind j ih=>
 cases d:L.getD j true with
 |true=>rfl
 |false=>
 have f:j<ops.size:=by
  have a:=zHi d;have:=(List.getElem?_eq_some_iff.1 a).1;simp at this;omega
 obtain⟨o,i⟩:∃o,ops[j]? =some o:=⟨ops[j],Array.getElem?_eq_getElem f⟩
 have g:j∈Region.ready md ops L:=by
  refine mem_ready.2 ⟨d,o,i,λe he b=> ?_⟩;unfold zNQ at c;rw[List.all_eq_true]at c;have a:=c j (List.mem_range.2 f);rw[i]at a;simp only[Array.all_eq_true_iff_forall_mem,Bool.or_eq_true,Bool.not_eq_true',decide_eq_true_eq]at a;have k:e.on<j:=(a e he).resolve_left (by rw[b];simp);have:=ih e.on k;rw[Array.getD_eq_getD_getElem?]at this⊢;rw[Array.getElem?_eq_getElem (by omega)]at this⊢;exact this
 rw[h]at g;cases g
theorem wSI(I:Array Bool->Act->World->Prop)(u:∀L a w,I L a w->L.getD s true=true\/S w)(t:∀L a w,I L a w->L.size=ops.size)
  (c:∀L a w,I L a w->(∀j,L.getD j true=true)->Q .normal a w)
  (d:∀L a w j o,I L a w->ops[j]? =some o->L.getD j true=false->(∀e∈o.after,Region.binds md e=true->L.getD e.on true=true)->o.guard=none/\∀K:Act->World->Prop,(∀i w',I (L.setIfInBounds j true) i w'->True->K i w')->Oper.wp P o a w K Q)
  (q:zNQ md ops=true:=by kernel_rfl):
  ∀(fuel:Nat)(L:Array Bool)(a:Act)(w:World),zK8 L.toList<=fuel->I L a w->wpAnyS P md ops Q S s fuel L a w
 |0,L,a,w,hf,hI=>by
  have f:Region.ready md ops L=[]:=by
   cases f:Region.ready md ops L with
   |nil=>rfl
   |cons j r=>
   (have n:j∈Region.ready md ops L:=by rw[f];simp);have:=zId _ j (zHi (mem_ready.1 n).1);omega
  exact⟨f,c L a w hI (zK9 q (t L a w hI) f)⟩
 |fuel+1,L,a,w,hf,hI=>by
  refine⟨λf=>c L a w hI (zK9 q (t L a w hI) f),λj n=> ?_⟩;obtain⟨v,o,x,h⟩:=mem_ready.1 n
  obtain⟨y,A⟩:=d L a w j o hI x v λe he m=>by
   have k:=h e he m;rw[Array.getD_eq_getD_getElem?]at k⊢
   cases z:L[e.on]? with
   |none=>rfl
   |some b=>rw[z]at k;exact k
  unfold wpOp;rw[x];simp only;rw[if_pos (by simp[Region.wanted,y])];refine Or.inl (A _ λi w' g _=>⟨u _ _ _ g,wSI I u t c d q fuel _ i w' ?_ g⟩);have:=zId _ j (zHi v);rw[Array.toList_setIfInBounds];omega
theorem zS0{F:Fence}{c:Code}(h:∀A,A=a->c.wpIn F n P Q A w):c.wpIn F n P Q a w:=h a rfl
theorem zJb(s:Nat)(S:World->Prop)(h:wpAnyS P .any ops (zK2 Q) S s ops.size (Array.replicate ops.size false) a w.drew)(b:P.follows .mixedOrders =true:=by kernel_rfl):(Code.region id ops true).wp P Q a w:=
 wpIn_wide.1 (zMp (n:=0) s S b h)
theorem wSA(h:∀b,b=a->wpAnyS P md ops Q S s fuel L b w):wpAnyS P md ops Q S s fuel L a w:=h a rfl
theorem zL2(d:¬LetsOut Q):∀(rest:List Oper)(a:Act)(w:World),(∀o∈rest,∀c,o.op≠ .defer c)->wpList P ops Q rest a w->wpListIn (Fence.wide.inRound l) n P ops Q rest a w
 |[],_,_,_,h=>h
 |o::rest,a,w,hd,h=>by
  unfold wpList at h;unfold wpListIn;split
  ·rename_i hw;rw[if_pos hw]at h;rcases h with h|h
   ·exact zPH (hd o (by simp)) (Oper.wp_mono (λa w h=>zL2 d rest a w (λo b=>hd o (by simp[b])) h) h)
   exact absurd h.2 d
  rename_i hw;rw[if_neg hw]at h;exact⟨λ_ _=>trivial,zL2 d rest _ _ (λo b=>hd o (by simp[b])) h⟩
theorem zAu(h:wpList P ops (λe a w=>Q e a w/\e≠ .outgrown) ops.toList a w)(b:zH0 ops=true:=by kernel_rfl):(Code.region id ops false).wpIn (Fence.wide.inRound l) n P Q a w:=
 Code.wpIn_mono (λ_ _ _ h=>h.1) (wpIn_region_list (zL2 (λ⟨_,_,h⟩=>h.2 rfl) _ _ _ (λo f c=>by
  obtain⟨i,d,rfl⟩:=List.getElem_of_mem f
  exact zI7 b (i:=i) (by rw[<-Array.getElem?_toList,List.getElem?_eq_getElem d]) c) h))
end
theorem Blk.setRow(h:Blk w g t cs)(ds:Array Value):Blk (w.setRow g ds) g t ds:=setRow_heap w g cs ds t (0,0) h
theorem Blk.farRow(h:Blk w g t cs)(a:g≠k)(ds:Array Value):Blk (w.setRow k ds) g t cs:=(setRow_other w k g ds a).trans h
theorem zA.setRow{w w':World}(h:zA Z w w')(b:¬Z g)(cs:Array Value):zA Z w (w'.setRow g cs):=
 ⟨h.os,h.tape,h.output,by rw[setRow_size];exact h.size,λk c a=>(setRow_other w' g k cs λe=>b (e▸a)).trans (h.block k c a)⟩
theorem zTT{n o q:Oper}{A B C:Tmp}{T f g:TypeId}{bv er v4 G:Value}{D E F:Operand}{c d e:Nat}
  (i:Blk w c T old)(j:Blk w d f #[v4])(m:Blk w e g #[G])(x:c≠d)(y:c≠e)(z:d≠e)
  (hi:(P.info? T).map (·.size)=some cs.size)(h1:cs.all (·.oneCell')=true)(v:old.size=cs.size)
  (s:(P.info? f).map (·.size)=some 1)(t:(P.info? g).map (·.size)=some 1)(ob:bv.oneCell'=true)(oe:er.oneCell'=true)
  (k:∀w',Blk w' c T cs->Blk w' d f #[bv]->Blk w' e g #[er]->zA (λb=>b≠c/\b≠d/\b≠e) w w'->Q .normal a w')
  (X:n.guard=none:=by rfl)(Y:o.guard=none:=by rfl)(Z:q.guard=none:=by rfl)
  (M:n.op= .store T (.tmp A) D:=by rfl)(N:o.op= .store f (.tmp B) E:=by rfl)(O:q.op= .store g (.tmp C) F:=by rfl)
  (J:n.dst=none:=by rfl)(K:o.dst=none:=by rfl)(L:q.dst=none:=by rfl)
  (R:a.eval (.tmp A)= .pointer (some ⟨c,0,none⟩):=by rfl)(U:a.eval (.tmp B)= .pointer (some ⟨d,0,none⟩):=by rfl)
  (V:a.eval (.tmp C)= .pointer (some ⟨e,0,none⟩):=by rfl)(W:a.eval D= .agg cs:=by rfl)(H:a.eval E=bv:=by rfl)(I:a.eval F=er:=by rfl):
  wpList P ops Q [n,o,q] a w:=by
 have u:Act.put a none undef=a:=rfl;refine wpList_store_row X T (.tmp A) D M c cs R W T old i hi v h1 ?_;rw[J,u];refine wpList_store_one Y f (.tmp B) E N d U (by rw[H];exact ob) f v4 (j.farRow (Ne.symm x) _) s ?_;rw[K,u,H];refine wpList_store_one Z g (.tmp C) F O e V (by rw[I];exact oe) g G ((m.farRow (Ne.symm y) _).farRow (Ne.symm z) _) t ?_;rw[L,u,I]
 exact k _ (((i.setRow cs).farRow x _).farRow y _) (((j.farRow (Ne.symm x) _).setRow _).farRow z _) (((m.farRow (Ne.symm y) _).farRow (Ne.symm z) _).setRow _)
  ((((zA.refl _ _).setRow (λh=>h.1 rfl) _).setRow (λh=>h.2.1 rfl) _).setRow (λh=>h.2.2 rfl) _)
theorem zL3{g h i j:Oper}{d q A B C:Tmp}{T m n:TypeId}{bv er v4 v5:Value}{c e f z:Nat}{ds:TypeDesc}
  (u:Blk w z T cs)(o:Blk w c T old)(s:Blk w e m #[v4])(t:Blk w f n #[v5])(n1:c≠e)(n2:c≠f)(n3:e≠f)
  (hu:P.underlying T=some ds)(Z:(match ds with| .struct _ | .array _ _=>true| _=>false)=true)(hi:(P.info? T).map (·.size)=some cs.size)(Y:cs.all (·.oneCell')=true)(y:old.size=cs.size)
  (v:(P.info? m).map (·.size)=some 1)(x:(P.info? n).map (·.size)=some 1)(ob:bv.oneCell'=true)(oe:er.oneCell'=true)
  (k:∀w',Blk w' c T cs->Blk w' e m #[bv]->Blk w' f n #[er]->zA (λb=>b≠c/\b≠e/\b≠f) w w'->Q .normal (a.put (some d) (.agg cs)) w')
  (U:g.guard=none:=by rfl)(V:h.guard=none:=by rfl)(W:i.guard=none:=by rfl)(X:j.guard=none:=by rfl)
  (H:g.op= .load T (.tmp q):=by rfl)(I:h.op= .store T (.tmp A) (.tmp d):=by rfl)(J:i.op= .store m (.tmp B) y3:=by rfl)(K:j.op= .store n (.tmp C) y4:=by rfl)
  (D:g.dst=some d:=by rfl)(E:h.dst=none:=by rfl)(F:i.dst=none:=by rfl)(G:j.dst=none:=by rfl)
  (O:a.eval (.tmp q)= .pointer (some ⟨z,0,none⟩):=by rfl)(L:(a.put (some d) (.agg cs)).eval (.tmp A)= .pointer (some ⟨c,0,none⟩):=by rfl)(M:(a.put (some d) (.agg cs)).eval (.tmp B)= .pointer (some ⟨e,0,none⟩):=by rfl)
  (N:(a.put (some d) (.agg cs)).eval (.tmp C)= .pointer (some ⟨f,0,none⟩):=by rfl)(R:(a.put (some d) (.agg cs)).eval (.tmp d)= .agg cs:=by rfl)(x3:(a.put (some d) (.agg cs)).eval y3=bv:=by rfl)(x4:(a.put (some d) (.agg cs)).eval y4=er:=by rfl):
  wpList P ops Q [g,h,i,j] a w:=by
 refine zDq U T (.tmp q) H O u ds hu Z hi ?_;rw[D];exact zTT o s t n1 n2 n3 hi Y y v x ob oe k V W X I J K E F G L M N R x3 x4
def lim(x:Nat):Value:= .int .u64 (x:Int)
section lims
variable {Z Z':zD} {w w':World} {v:Value} {l:List Nat}
end lims
theorem zOZ{t ty e:TypeId}{d f:Nat}(G:P.underlying t=some (.slice e))(E:zC2 P e d f)(k:w.ownsRow base e d v n xs)
  {A:Option Addr}{Zn:zD}(C:news.length=m*d)(J:Row Zn w A news)(K:∀u∈news,u.oneCell'=true)(x:n+m<=maxLen)(O:(n+m)*f<=140737488355328)(o:base<=w.heap.size):
  ∃q w',(Builtin.append_ #[t,t] ty #[v,.slice A m c]).run P w= .ok q w'/\w'.ownsRow base e d q (n+m) (xs++news)/\w.grownBy w' v.ownBlock/\(q.ownBlock=v.ownBlock\/q.ownBlock=some w.heap.size):=by
 obtain⟨T,i,z,B,U,F,y,I⟩:=E
 cases A with
 |some a=>
  obtain⟨q,w',s,L,M,_,N⟩:=run_append_own_at (P:=P) w base t ty e i z d f G B U F y I T v n xs k a m c news C (λj u H=>by
   obtain⟨b,off,he,_,Q⟩:=J (λe=>by rw[e]at H;cases H);injection he with he;subst he;rw[show(⟨b,off,none⟩:Addr).add j=⟨b,off+j,none⟩ from by unfold Addr.add;split<;>simp_all]
   exact Q j u H) K x O o
  exact⟨q,w',s,L,M,N⟩
 |none=>
 have D:news=[]:=by
  by_cases h:news=[]
  ·exact h
  obtain⟨b,off,he,_⟩:=J h;cases he
 subst D
 have R:m=0:=by
  rw[List.length_nil]at C;rcases Nat.mul_eq_zero.1 C.symm with h|h
  ·exact h
  omega
 subst R;refine⟨v,w,?_,by simpa using k,⟨rfl,rfl,rfl,Nat.le_refl _,λ_ _ _=>rfl⟩,Or.inl rfl⟩;rcases k.2 with⟨rfl,rfl⟩|⟨g,cap,cur,rfl,hbg,hg,hnc,hcm,hcs,htake⟩
 ·simp[Builtin.append_,run_underlying G,sizeOf,typeInfo,B,Builtin.lenOf,Builtin.firstCells]
 simp[Builtin.append_,run_underlying G,sizeOf,typeInfo,B,Builtin.lenOf,Builtin.firstCells,hnc,storeCells]
end Go.Proofs.YtommaegelgilnaaGreatDoor
