/- Lemmas. -/
import Derived.Test.YtommaegelgilnaaGreatDoorM40
set_option linter.all false
namespace Go.Proofs.YtommaegelgilnaaGreatDoor
open Go.RowKit Go.Proofs.Tryz
set_option maxHeartbeats 8000000
set_option maxRecDepth 100000
variable {E:zD}{l:List zF}{s:zM}{v y:Value}{w w':World}
def KP(B M Mo F C:Nat):zD:=λb=>b≠B/\b≠M/\b≠Mo/\b≠F/\b≠C
def EC(E:zD)(F C:Nat):zD:=λb=>E b\/b=F\/b=C
def zSI(E2 Z:zD)(B0 B M:Nat)(l:List zF)(s:zM)(st:zAH)(w3:World)(v13 v14:Value)(wx:World):Prop:=
 ∃F C,v13= .pointer (some ⟨F,0,none⟩)/\v14= .pointer (some ⟨C,0,none⟩)/\F≠C/\w3.heap.size<=F/\w3.heap.size<=C/\zQ (EC E2 F C) Z B0 wx B M l s st/\zE0 (EC E2 F C) wx F (zJ s.dom)/\zE0 (EC E2 F C) wx C (zJ s.dom)/\zA (λ_=>True) w3 wx
def EF(E:zD)(p q:Bool)(F C:Nat):zD:=λb=>E b\/(p=true/\b=F)\/(q=true/\b=C)
structure R4 (E2 Z:zD) (B0 B M:Nat) (l:List zF) (s:zM) (st:zAH) (w3 x:World) (b1 b3 b4 b5 b6 b7:Bool) (u37 u39 v13 v14:Value) (F C:Nat):Prop where
 m:zQ (EF E2 b4 b5 F C) Z B0 x B M l s st
 k:zA (λ_=>True) w3 x
 n1:b1=true->∃A c,u37= .agg #[.slice A (zJ s.dom).length c]/\zK (λb=>¬EF E2 b4 b5 F C b) x (.slice A (zJ s.dom).length c) (zJ s.dom)
 n3:b3=true->∃A c,u39= .agg #[.slice A (zJ s.dom).length c]/\zK (λb=>¬EF E2 b4 b5 F C b) x (.slice A (zJ s.dom).length c) (zJ s.dom)
 f:b4=true->v13= .pointer (some ⟨F,0,none⟩)/\w3.heap.size<=F/\∃y,Blk x F 74 #[y]/\(b6=true->u37= .agg #[y])
 c:b5=true->v14= .pointer (some ⟨C,0,none⟩)/\w3.heap.size<=C/\∃y,Blk x C 74 #[y]/\(b7=true->u39= .agg #[y])
 ne:b4=true->b5=true->F≠C
 k6:b6=true->b4=true/\b1=true
 k7:b7=true->b5=true/\b3=true
section
variable {E2 Z:zD} {B0 B M F C cp:Nat} {l:List zF} {s:zM} {st:zAH} {w3 x x':World} {b1 b3 b4 b5 b6 b7:Bool} {u37 u39 v13 v14:Value} {A:Option Addr}
theorem R4.grow(h:R4 E2 Z B0 B M l s st w3 x b1 b3 b4 b5 b6 b7 u37 u39 v13 v14 F C)(d:Bw x x'):R4 E2 Z B0 B M l s st w3 x' b1 b3 b4 b5 b6 b7 u37 u39 v13 v14 F C:=
 ⟨h.m.below d,h.k.trans (.of_below d),λe=>by obtain⟨A,c,a,b⟩:=h.n1 e;exact⟨A,c,a,b.keep (.of_below d)⟩,λe=>by obtain⟨A,c,a,b⟩:=h.n3 e;exact⟨A,c,a,b.keep (.of_below d)⟩,
  λe=>by obtain⟨a,b,y,g,i⟩:=h.f e;exact⟨a,b,y,g.below d g.lt,i⟩,λe=>by obtain⟨a,b,y,g,i⟩:=h.c e;exact⟨a,b,y,g.below d g.lt,i⟩,h.ne,h.k6,h.k7⟩
theorem R4.call1(h:R4 E2 Z B0 B M l s st w3 x false b3 b4 b5 b6 b7 u37 u39 v13 v14 F C)(j:Bw x x')(n:zK (λb=>¬EF E2 b4 b5 F C b) x' (.slice A (zJ s.dom).length cp) (zJ s.dom)):R4 E2 Z B0 B M l s st w3 x' true b3 b4 b5 b6 b7 (.agg #[.slice A (zJ s.dom).length cp]) u39 v13 v14 F C:=
 have g:=h.grow j
 ⟨g.m,g.k,λ_=>⟨A,cp,rfl,n⟩,g.n3,λe=>by obtain⟨a,d,y,i,o⟩:=g.f e;exact⟨a,d,y,i,λe=>absurd (h.k6 e).2 (by simp)⟩,g.c,g.ne,λe=>absurd (h.k6 e).2 (by simp),g.k7⟩
theorem R4.call3(h:R4 E2 Z B0 B M l s st w3 x b1 false b4 b5 b6 b7 u37 u39 v13 v14 F C)(j:Bw x x')(n:zK (λb=>¬EF E2 b4 b5 F C b) x' (.slice A (zJ s.dom).length cp) (zJ s.dom)):R4 E2 Z B0 B M l s st w3 x' b1 true b4 b5 b6 b7 u37 (.agg #[.slice A (zJ s.dom).length cp]) v13 v14 F C:=
 have g:=h.grow j
 ⟨g.m,g.k,g.n1,λ_=>⟨A,cp,rfl,n⟩,g.f,λe=>by obtain⟨a,d,y,i,o⟩:=g.c e;exact⟨a,d,y,i,λe=>absurd (h.k7 e).2 (by simp)⟩,g.ne,g.k6,λe=>absurd (h.k7 e).2 (by simp)⟩
theorem R4.boxF(h:R4 E2 Z B0 B M l s st w3 x b1 b3 false b5 b6 b7 u37 u39 v13 v14 F C):R4 E2 Z B0 B M l s st w3 (x.alloc (.cells #[.slice none 0 0] 74)) b1 b3 true b5 b6 b7 u37 u39 (.pointer (some ⟨x.heap.size,0,none⟩)) v14 x.heap.size C:=by
 have a:Bw x (x.alloc (.cells #[.slice none 0 0] 74)):=zG x _;have n:∀b,EF E2 false b5 F C b->EF E2 true b5 x.heap.size C b:=λb a=>a.imp id (Or.imp (λe=>by cases e.1) id)
 have i:∀b,EF E2 true b5 x.heap.size C b->EF E2 false b5 F C b\/x.heap.size<=b:=λb a=>by
  rcases a with e|⟨_,rfl⟩|e
  ·exact .inl (.inl e)
  ·exact .inr (Nat.le_refl _)
  exact .inl (.inr (.inr e))
 refine⟨h.m.more a n (λb e=>by rcases e with e|⟨_,rfl⟩|e;exact .inl (.inl e);exact .inr (by simp);exact .inl (.inr (.inr e))),h.k.alloc _,λe=> ?_,λe=> ?_,λ_=>⟨rfl,h.k.size,_,Blk.new _ _ _,λe=>absurd (h.k6 e).1 (by simp)⟩,λe=> ?_,λ_ e=> ?_,λe=>absurd (h.k6 e).1 (by simp),h.k7⟩
 ·obtain⟨A,c,d,f⟩:=h.n1 e;exact⟨A,c,d,zQ.nodes_more f a i⟩
 ·obtain⟨A,c,d,f⟩:=h.n3 e;exact⟨A,c,d,zQ.nodes_more f a i⟩
 ·obtain⟨d,f,y,g,j⟩:=h.c e;exact⟨d,f,y,g.alloc _,j⟩
 obtain⟨-,-,y,g,-⟩:=h.c e;have:=g.lt;omega
theorem R4.boxC(h:R4 E2 Z B0 B M l s st w3 x b1 b3 b4 false b6 b7 u37 u39 v13 v14 F C):R4 E2 Z B0 B M l s st w3 (x.alloc (.cells #[.slice none 0 0] 74)) b1 b3 b4 true b6 b7 u37 u39 v13 (.pointer (some ⟨x.heap.size,0,none⟩)) F x.heap.size:=by
 have a:Bw x (x.alloc (.cells #[.slice none 0 0] 74)):=zG x _;have o:∀b,EF E2 b4 false F C b->EF E2 b4 true F x.heap.size b:=λb a=>a.imp id (Or.imp id (λe=>by cases e.1))
 have j:∀b,EF E2 b4 true F x.heap.size b->EF E2 b4 false F C b\/x.heap.size<=b:=λb a=>by
  rcases a with e|e|⟨_,rfl⟩
  ·exact .inl (.inl e)
  ·exact .inl (.inr (.inl e))
  exact .inr (Nat.le_refl _)
 refine⟨h.m.more a o (λb e=>by rcases e with e|e|⟨_,rfl⟩;exact .inl (.inl e);exact .inl (.inr (.inl e));exact .inr (by simp)),h.k.alloc _,λe=> ?_,λe=> ?_,λe=> ?_,λ_=>⟨rfl,h.k.size,_,Blk.new _ _ _,λe=>absurd (h.k7 e).1 (by simp)⟩,λe _=> ?_,h.k6,λe=>absurd (h.k7 e).1 (by simp)⟩
 ·obtain⟨A,c,d,g⟩:=h.n1 e;exact⟨A,c,d,zQ.nodes_more g a j⟩
 ·obtain⟨A,c,d,g⟩:=h.n3 e;exact⟨A,c,d,zQ.nodes_more g a j⟩
 ·obtain⟨d,g,y,i,n⟩:=h.f e;exact⟨d,g,y,i.alloc _,n⟩
 obtain⟨-,-,y,i,-⟩:=h.f e;have:=i.lt;omega
theorem R4.stF(h:R4 E2 Z B0 B M l s st w3 x b1 b3 true b5 false b7 (.agg #[y]) u39 v13 v14 F C)(E:B<w3.heap.size/\M<w3.heap.size)(q:b5=true)(v:b1=true):R4 E2 Z B0 B M l s st w3 (x.setCell ⟨F,0,none⟩ y) b1 b3 true b5 true b7 (.agg #[y]) u39 v13 v14 F C:=by
 obtain⟨w,o,z,D,-⟩:=h.f rfl;have i:=h.ne rfl q;have j:zA (λb=>b≠F) x (x.setCell ⟨F,0,none⟩ y):=(zA.refl _ _).setCell (λ_ h=>h rfl) _;have n:zA (λb=>¬EF E2 true b5 F C b) x (x.setCell ⟨F,0,none⟩ y):=j.mono λb _ g e=>g (.inr (.inl ⟨rfl,e⟩))
 refine⟨h.m.gen (j.mono λb _ g e=> ?_),h.k.setCell (λ(e:F<w3.heap.size)=>absurd o (Nat.not_le_of_lt e)) _,λe=> ?_,λe=> ?_,λ_=>⟨w,o,y,D.set_ 0 _,λ_=>rfl⟩,λe=> ?_,h.ne,λ_=>⟨rfl,v⟩,h.k7⟩
 ·rcases g with g|rfl|rfl
  ·exact g (.inr (.inl ⟨rfl,e⟩))
  ·omega
  omega
 ·obtain⟨A,c,a,d⟩:=h.n1 e;exact⟨A,c,a,d.keep n⟩
 ·obtain⟨A,c,a,d⟩:=h.n3 e;exact⟨A,c,a,d.keep n⟩
 obtain⟨a,d,y,t,u⟩:=h.c e;exact⟨a,d,y,t.far (p:=⟨F,0,none⟩) (Ne.symm i) _,u⟩
theorem R4.stC(h:R4 E2 Z B0 B M l s st w3 x b1 b3 b4 true b6 false u37 (.agg #[y]) v13 v14 F C)(E:B<w3.heap.size/\M<w3.heap.size)(q:b4=true)(v:b3=true):R4 E2 Z B0 B M l s st w3 (x.setCell ⟨C,0,none⟩ y) b1 b3 b4 true b6 true u37 (.agg #[y]) v13 v14 F C:=by
 obtain⟨w,o,z,D,-⟩:=h.c rfl;have i:=h.ne q rfl;have j:zA (λb=>b≠C) x (x.setCell ⟨C,0,none⟩ y):=(zA.refl _ _).setCell (λ_ h=>h rfl) _;have n:zA (λb=>¬EF E2 b4 true F C b) x (x.setCell ⟨C,0,none⟩ y):=j.mono λb _ g e=>g (.inr (.inr ⟨rfl,e⟩))
 refine⟨h.m.gen (j.mono λb _ g e=> ?_),h.k.setCell (λ(e:C<w3.heap.size)=>absurd o (Nat.not_le_of_lt e)) _,λe=> ?_,λe=> ?_,λe=> ?_,λ_=>⟨w,o,y,D.set_ 0 _,λ_=>rfl⟩,h.ne,h.k6,λ_=>⟨rfl,v⟩⟩
 ·rcases g with g|rfl|rfl
  ·exact g (.inr (.inr ⟨rfl,e⟩))
  ·omega
  omega
 ·obtain⟨A,c,a,d⟩:=h.n1 e;exact⟨A,c,a,d.keep n⟩
 ·obtain⟨A,c,a,d⟩:=h.n3 e;exact⟨A,c,a,d.keep n⟩
 obtain⟨a,d,y,t,u⟩:=h.f e;exact⟨a,d,y,t.far (p:=⟨C,0,none⟩) i _,u⟩
theorem R4.fin(h:R4 E2 Z B0 B M l s st w3 x true true true true true true u37 u39 v13 v14 F C):zSI E2 Z B0 B M l s st w3 v13 v14 x:=by
 obtain⟨rfl,t,D,z,o⟩:=h.f rfl;obtain⟨rfl,u,E,A,q⟩:=h.c rfl;have v:EF E2 true true F C=EC E2 F C:=by funext b;simp[EF,EC]
 obtain⟨j,c1,w,g⟩:=h.n1 rfl;obtain⟨n,c2,y,i⟩:=h.n3 rfl;have e:=h.m;rw[v]at g i e;have a:=(o rfl).symm.trans w;have d:=(q rfl).symm.trans y;injection a with a;injection d with d;have a:=congrArg Array.toList a;have d:=congrArg Array.toList d;simp only[List.cons.injEq,and_true]at a d;subst a d;exact⟨F,C,rfl,rfl,h.ne rfl rfl,t,u,e,⟨j,c1,z,g⟩,⟨n,c2,A,i⟩,h.k⟩
end
theorem zEq{E E':zD}{xs:List Int}(h:zO (λb=>¬E b) w v xs)(e:Bw w w')(d:∀b,E' b->E b\/w.heap.size<=b):zO (λb=>¬E' b) w' v xs:=(h.live.keep (.of_below e)).mono λb a he=>by
 rcases d b he with c|c
 ·exact a.1 c
 have:=a.2;omega
theorem zKW{L:List Nat}{n:Nat}(h:w'.ownsRow w.heap.size 3 1 v L.length (ints L))(a:∀b,E b->b<w.heap.size)(c:∀i∈L,i<n)(k:n<=1000)(j:L.length<=1000):zO (λb=>¬E b) w' v (L.map λ(i:Nat)=>(i:Int)):=by
 have e:ints L=(L.map λ(i:Nat)=>(i:Int)).map (Value.int .i64):=by unfold ints;rw[List.map_map];rfl
 rw[e]at h;refine(zO.of_own h (λx f=> ?_) (by rw[List.length_map];omega)).mono λb g he=> ?_
 ·obtain⟨i,d,rfl⟩:=List.mem_map.1 f;have:=c i d;unfold I64;omega
 have:=a b he;omega
theorem zEU{sg nw kd:Int}:(∀i∈zBJ l s sg nw kd,i<l.length)/\(zBJ l s sg nw kd).length <=l.length:=
 ⟨λi a=>List.mem_range.1 (List.mem_filter.1 a).1,Nat.le_trans (List.length_filter_le _ _) (by rw[List.length_range];exact Nat.le_refl _)⟩
def zTI(E Z:zD)(B0 B M:Nat)(l:List zF)(s:zM)(r:List zB × List zB × zAH)(w:World)(e:Ending)(w':World):Prop:=
 ∃A1 c1 A2 c2,e= .returned (.tuple #[.agg #[.slice A1 r.1.length c1],.agg #[.slice A2 r.2.1.length c2]])/\zK (λb=>¬E b) w' (.slice A1 r.1.length c1) r.1/\zK (λb=>¬E b) w' (.slice A2 r.2.1.length c2) r.2.1/\zQ E Z B0 w' B M l s r.2.2/\zA (λb=>b≠B/\b≠M) w w'
theorem zQ.conditions{E Z:zD}{B0 B M:Nat}{st:zAH}(h:zQ E Z B0 w B M l s st)(sg nw:Int)(gp:s.zones.length=s.auths.length)(hn:l.length<=200)(hs:∀m∈l,zH m.when_<=1000000)(ki:s.auths.length<=6):
  Calls prog 36 #[.pointer (some ⟨B,0,none⟩),.int .i64 sg,.int .i64 nw] w (zTI E Z B0 B M l s (zBV l s sg nw st) w):=by
 have ks:∀(fn:Fn)(first h5:Array Value)(w:World),(Instr.makeFunc fn first h5).run prog w= .ok (.func fn first h5) w:=λ_ _ _ _=>rfl
 have kt:= @run_makeMap prog;have kp:=h.bl;have kq:=(h.e M h.em).1;have eg:=hid (And.intro h.eb h.em);have fw:=hid (show Bw w (((((w.alloc (.cells #[.pointer (some ⟨B,0,none⟩)] 68)).alloc (.cells #[.int .i64 sg] 3)).alloc (.cells #[.int .i64 nw] 3)).alloc (.cells #[.slice none 0 0] 74)).alloc (.cells #[.slice none 0 0] 74)) from((((zG w _).alloc (by simp) _).alloc (by simp;omega) _).alloc (by simp;omega) _).alloc (by simp;omega) _);have bb:=hid (show Blk (((((w.alloc (.cells #[.pointer (some ⟨B,0,none⟩)] 68)).alloc (.cells #[.int .i64 sg] 3)).alloc (.cells #[.int .i64 nw] 3)).alloc (.cells #[.slice none 0 0] 74)).alloc (.cells #[.slice none 0 0] 74)) w.heap.size 68 #[.pointer (some ⟨B,0,none⟩)] from((((Blk.new w _ _).alloc _).alloc _).alloc _).alloc _);have dr:=hid (show Blk (((((w.alloc (.cells #[.pointer (some ⟨B,0,none⟩)] 68)).alloc (.cells #[.int .i64 sg] 3)).alloc (.cells #[.int .i64 nw] 3)).alloc (.cells #[.slice none 0 0] 74)).alloc (.cells #[.slice none 0 0] 74)) (w.heap.size+1) 3 #[.int .i64 sg] from(((Blk.newE _ _ _ (by simp)).alloc _).alloc _).alloc _);have ds:=hid (show Blk (((((w.alloc (.cells #[.pointer (some ⟨B,0,none⟩)] 68)).alloc (.cells #[.int .i64 sg] 3)).alloc (.cells #[.int .i64 nw] 3)).alloc (.cells #[.slice none 0 0] 74)).alloc (.cells #[.slice none 0 0] 74)) (w.heap.size+1+1) 3 #[.int .i64 nw] from((Blk.newE _ _ _ (by simp)).alloc _).alloc _);have er:=hid (show Blk (((((w.alloc (.cells #[.pointer (some ⟨B,0,none⟩)] 68)).alloc (.cells #[.int .i64 sg] 3)).alloc (.cells #[.int .i64 nw] 3)).alloc (.cells #[.slice none 0 0] 74)).alloc (.cells #[.slice none 0 0] 74)) (w.heap.size+1+1+1) 74 #[.slice none 0 0] from(Blk.newE _ _ _ (by simp)).alloc _);have es:=hid (show Blk (((((w.alloc (.cells #[.pointer (some ⟨B,0,none⟩)] 68)).alloc (.cells #[.int .i64 sg] 3)).alloc (.cells #[.int .i64 nw] 3)).alloc (.cells #[.slice none 0 0] 74)).alloc (.cells #[.slice none 0 0] 74)) (w.heap.size+1+1+1+1) 74 #[.slice none 0 0] from Blk.newE _ _ _ (by simp));have kw:w.heap.size+1+1+1+1<(((((w.alloc (.cells #[.pointer (some ⟨B,0,none⟩)] 68)).alloc (.cells #[.int .i64 sg] 3)).alloc (.cells #[.int .i64 nw] 3)).alloc (.cells #[.slice none 0 0] 74)).alloc (.cells #[.slice none 0 0] 74)).heap.size :=by simp
 have f6:=hid (h.more fw (E':=λb=>E b\/b=w.heap.size+1+1+1\/b=w.heap.size+1+1+1+1) (λb d=> .inl d) (λb d=>d.imp id λe=>by omega));have fy:=hid (show zBV l s sg nw st=(let q:=s.auths.foldl (zCE s.dom l (zBJ l s sg nw 1) (zBJ l s sg nw 2)) ⟨[],zJ s.dom,st⟩;let r:=(zBJ l s sg nw 3).foldl (zCW s.dom l q.own) (zJ s.dom,q.st);(q.forb,r.1,r.2)) from rfl);generalize zBV l s sg nw st=CS at*;have gd:∀b,E b->b<w.heap.size:=λb d=>(h.e b d).1
 clear h;go_enter func36,ntmps36
 go_upto_region 1 with fail
 generalize ((((w.alloc _).alloc _).alloc _).alloc _).alloc _=w1 at*;go_wp2_with fail
 refine(f6.applies w.heap.size (w.heap.size+1) (w.heap.size+1+1) 1 sg nw bb dr ds gp hn).mono ?_;rintro e y1 ⟨u9,rfl,ho,d⟩;have f7:=hid (f6.below d);have en:=hid (bb.below d bb.lt);have eo:=hid (dr.below d dr.lt);have ep:=hid (ds.below d ds.lt);have ft:=hid d;have hr:=hid (zKW (E:=λb=>E b\/b=w.heap.size+1+1+1\/b=w.heap.size+1+1+1+1) ho (λb d=>by rcases d with d|d;(have:=gd b d;omega);omega) zEU.1 (by omega) (Nat.le_trans zEU.2 (by omega)));clear ho d;go_wp2_with fail
 refine(f7.applies w.heap.size (w.heap.size+1) (w.heap.size+1+1) 2 sg nw en eo ep gp hn).mono ?_;rintro e y2 ⟨u10,rfl,ho,d⟩;have f8:=hid (f7.below d);have ht:=hid (en.below d en.lt);have hu:=hid (eo.below d eo.lt);have hv:=hid (ep.below d ep.lt);have fu:=hid (zC ft d);have k1:=ft.size;have fd:=hid (zKW (E:=λb=>E b\/b=w.heap.size+1+1+1\/b=w.heap.size+1+1+1+1) ho (λb d=>by rcases d with d|d;(have:=gd b d;omega);omega) zEU.1 (by omega) (Nat.le_trans zEU.2 (by omega)));have ff:=hid (hr.keep (.of_below d));clear ho d f7 en eo ep hr;go_wp2_with fail
 refine(f8.applies w.heap.size (w.heap.size+1) (w.heap.size+1+1) 3 sg nw ht hu hv gp hn).mono ?_;rintro e y3 ⟨u11,rfl,ho,d⟩;have hg:=hid (f8.below d);have fv:=hid (zC fu d);have k2:=fu.size;have fe:=hid (zKW (E:=λb=>E b\/b=w.heap.size+1+1+1\/b=w.heap.size+1+1+1+1) ho (λb d=>by rcases d with d|d;(have:=gd b d;omega);omega) zEU.1 (by omega) (Nat.le_trans zEU.2 (by omega)));have dt:=hid (fd.keep (.of_below d));have fg:=hid (ff.keep (.of_below d));have j0:=fv.size;clear ho d f8 ht hu hv ft fu fd ff;have ee:=hid (And.intro (zEU (l:=l) (s:=s) (sg:=sg) (nw:=nw) (kd:=1)) (And.intro (zEU (l:=l) (s:=s) (sg:=sg) (nw:=nw) (kd:=2)) (zEU (l:=l) (s:=s) (sg:=sg) (nw:=nw) (kd:=3))));generalize zBJ l s sg nw 1=X at*;generalize zBJ l s sg nw 2=J at*;generalize zBJ l s sg nw 3=L3 at*;have cz:Bw y3 (y3.alloc (.map #[] 0)):=(Below.refl _ _).alloc (Nat.le_refl _) _;have f9:=hid (zS.made y3 encS);have ej:=hid (hg.more cz (E':=λb=>(E b\/b=w.heap.size+1+1+1\/b=w.heap.size+1+1+1+1)\/b=y3.heap.size) (λb d=> .inl d) (λb d=>d.imp id λe=>by simp;omega));have dj:=hid (zEq fg cz (E':=λb=>(E b\/b=w.heap.size+1+1+1\/b=w.heap.size+1+1+1+1)\/b=y3.heap.size) (λb d=>d.imp id λe=>by omega));have bj:=hid (zEq dt cz (E':=λb=>(E b\/b=w.heap.size+1+1+1\/b=w.heap.size+1+1+1+1)\/b=y3.heap.size) (λb d=>d.imp id λe=>by omega));have bk:=hid (zEq fe cz (E':=λb=>(E b\/b=w.heap.size+1+1+1\/b=w.heap.size+1+1+1+1)\/b=y3.heap.size) (λb d=>d.imp id λe=>by omega));have ca:=hid (fv.trans (cz.mono j0));have jx:y3.heap.size<(y3.alloc (.map #[] 0)).heap.size :=by simp
 clear cz fg dt fe hg fv;go_upto_region 4 with fail
 generalize y3.alloc (.map #[] 0)=w3 at*;generalize y3.heap.size=Mo at*;obtain⟨E2,br⟩:∃E2:zD,E2=λb=>(E b\/b=w.heap.size+1+1+1\/b=w.heap.size+1+1+1+1)\/b=Mo:=⟨_,rfl⟩
 rw[<-br]at ej;have dj:=hid (show zO (λb=>¬E2 b) w3 u9 (X.map λ(i:Nat)=>(i:Int)) from by rw[br];exact dj);have bj:=hid (show zO (λb=>¬E2 b) w3 u10 (J.map λ(i:Nat)=>(i:Int)) from by rw[br];exact bj);have bk:=hid (show zO (λb=>¬E2 b) w3 u11 (L3.map λ(i:Nat)=>(i:Int)) from by rw[br];exact bk);have ef:=hid br;have cn:=hid (show E2 B/\E2 M from⟨by rw[br];exact .inl (.inl eg.1),by rw[br];exact .inl (.inl eg.2)⟩);clear br
 have HC:=hid (λ(W:World)(hW:zA (λ_=>True) w3 W)=>(show W.cell? ⟨w.heap.size,0,none⟩=some (.pointer (some ⟨B,0,none⟩))/\w.heap.size<W.heap.size from by
  have h1:=(bb.below ca bb.lt).keep hW trivial
  exact⟨h1.at0,h1.lt⟩))
 have h8:B<w3.heap.size:=by omega
 have h9:M<w3.heap.size:=by omega
 go_cut[13,14] from 36 to 40 (λv13 v14 wx=>zSI E2 Z B0 B M l s st w3 v13 v14 wx)
 case first=>
  refine zY 6 (λW=>zA (λ_=>True) w3 W) (by kernel_rfl) ?_;have ac:zA (λ_=>True) w3 w3.drew:=(zA.refl _ _).drew;have hS:(λW=>zA (λ_=>True) w3 W) w3.drew:=ac;have jg:=hid (ej.below (Below.refl _ _).drew);generalize w3.drew=x0 at*
  (refine tkS 0 ?_ hS ?_ ?_;rotate_left;intro w n;obtain⟨a0,al⟩:=HC _ n;clear n;go_simp;(try with_reducible rfl);simp only[nr])
  try simp only[nq]
  (refine tkC 2 [3,6] ?_ hS ?_ ?_;rotate_left;intro w n;obtain⟨a0,al⟩:=HC _ n;clear n;go_simp;(try with_reducible rfl);simp only[nr])
  try simp only[nq]
  clear hS ej bb dr ds er es dj bj bk fy f9 HC ee;refine wSA λA0 hA=> ?_
  refine wSI (λ(L:Array Bool)(a1:Act)(x:World)=>∃(b1 b3 b4 b5 b6 b7:Bool)(u37 u39 v13 v14:Value)(F C:Nat),L=#[true,b1,true,b3,b4,b5,b6,b7]/\a1=(((A0.put (some 37) u37).put (some 39) u39).put (some 13) v13).put (some 14) v14/\R4 E2 Z B0 B M l s st w3 x b1 b3 b4 b5 b6 b7 u37 u39 v13 v14 F C) ?_ ?_ ?_ ?_ (by kernel_rfl) _ _ _ _ (by decide) ?_
  ·rintro L a1 x ⟨b1,b3,b4,b5,b6,b7,u37,u39,v13,v14,F,C,-,-,h⟩;exact .inr h.k
  ·rintro L a1 x ⟨b1,b3,b4,b5,b6,b7,u37,u39,v13,v14,F,C,rfl,-⟩;rfl
  ·rintro L a1 x ⟨b1,b3,b4,b5,b6,b7,u37,u39,v13,v14,F,C,rfl,rfl,h⟩ a2;have e1:b1=true:=a2 1;have e3:b3=true:=a2 3;have e4:b4=true:=a2 4;have e5:b5=true:=a2 5;have e6:b6=true:=a2 6;have e7:b7=true:=a2 7;subst e1 e3 e4 e5 e6 e7;have HR:=hid h;clear h a2;subst hA;simp only[nr];(go_wp2_with fail);go_meet;exact HR.fin
  ·rintro L a1 x j o ⟨b1,b3,b4,b5,b6,b7,u37,u39,v13,v14,F,C,rfl,rfl,h⟩ ho hf hd;have hj:j<8:=(Array.getElem?_eq_some_iff.1 ho).1;(have hj:j=0\/j=1\/j=2\/j=3\/j=4\/j=5\/j=6\/j=7:=by omega);rcases hj with rfl|rfl|rfl|rfl|rfl|rfl|rfl|rfl
   ·cases hf
   ·have hf:b1=false:=hf;subst hf;injection ho with ho;subst ho;refine⟨rfl,λK T=> ?_⟩;have HR:=hid h;clear h hd;subst hA;simp only[nr];(go_wp2_with fail);refine HR.m.never.mono ?_;rintro e x' ⟨A,cp,rfl,hn,d⟩;exact T _ _ ⟨true,b3,b4,b5,b6,b7,.agg #[.slice A (zJ s.dom).length cp],u39,v13,v14,F,C,rfl,(by simp only[nr]),HR.call1 d hn⟩ trivial
   ·cases hf
   ·have hf:b3=false:=hf;subst hf;injection ho with ho;subst ho;refine⟨rfl,λK T=> ?_⟩;have HR:=hid h;clear h hd;subst hA;simp only[nr];(go_wp2_with fail);refine HR.m.never.mono ?_;rintro e x' ⟨A,cp,rfl,hn,d⟩;exact T _ _ ⟨b1,true,b4,b5,b6,b7,u37,.agg #[.slice A (zJ s.dom).length cp],v13,v14,F,C,rfl,(by simp only[nr]),HR.call3 d hn⟩ trivial
   ·have hf:b4=false:=hf;subst hf;injection ho with ho;subst ho;refine⟨rfl,λK T=> ?_⟩;have HR:=hid h;clear h hd;subst hA;simp only[nr];(go_wp2_with fail);exact T _ _ ⟨b1,b3,true,b5,b6,b7,u37,u39,.pointer (some ⟨x.heap.size,0,none⟩),v14,x.heap.size,C,rfl,(by simp only[nr]),HR.boxF⟩ trivial
   ·have hf:b5=false:=hf;subst hf;injection ho with ho;subst ho;refine⟨rfl,λK T=> ?_⟩;have HR:=hid h;clear h hd;subst hA;simp only[nr];(go_wp2_with fail);exact T _ _ ⟨b1,b3,b4,true,b6,b7,u37,u39,v13,.pointer (some ⟨x.heap.size,0,none⟩),F,x.heap.size,rfl,(by simp only[nr]),HR.boxC⟩ trivial
   ·have hf:b6=false:=hf;subst hf;injection ho with ho;subst ho;have e4:b4=true:=hd ⟨4,.data⟩ (by simp) rfl;have e1:b1=true:=hd ⟨1,.data⟩ (by simp) rfl;have e5:b5=true:=hd ⟨5,.phase⟩ (by simp) rfl;subst e4;obtain⟨A,cp,rfl,-⟩:=h.n1 e1;obtain⟨rfl,-,y,hy,-⟩:=h.f rfl;have c0:=hy.at0;have g0:=hy.frozen 0;have cl:=hy.lt;have HM:=hid (And.intro e5 e1);clear hy;refine⟨rfl,λK T=> ?_⟩;have HR:=hid h;clear h hd;subst hA;simp only[nr];(go_wp2_with fail);exact T _ _ ⟨b1,b3,true,b5,true,b7,.agg #[.slice A (zJ s.dom).length cp],u39,.pointer (some ⟨F,0,none⟩),v14,F,C,rfl,(by simp only[nr]),HR.stF ⟨h8,h9⟩ HM.1 HM.2⟩ trivial
   have hf:b7=false:=hf;subst hf;injection ho with ho;subst ho;have e5:b5=true:=hd ⟨5,.data⟩ (by simp) rfl;have e3:b3=true:=hd ⟨3,.data⟩ (by simp) rfl;have e4:b4=true:=hd ⟨4,.phase⟩ (by simp) rfl;subst e5;obtain⟨A,cp,rfl,-⟩:=h.n3 e3;obtain⟨rfl,-,y,hy,-⟩:=h.c rfl;have c0:=hy.at0;have g0:=hy.frozen 0;have cl:=hy.lt;have HM:=hid (And.intro e4 e3);clear hy;refine⟨rfl,λK T=> ?_⟩;have HR:=hid h;clear h hd;subst hA;simp only[nr];(go_wp2_with fail);exact T _ _ ⟨b1,b3,b4,true,b6,true,u37,.agg #[.slice A (zJ s.dom).length cp],v13,.pointer (some ⟨C,0,none⟩),F,C,rfl,(by simp only[nr]),HR.stC ⟨h8,h9⟩ HM.1 HM.2⟩ trivial
  have jq:EF E2 false false 0 0=E2:=by funext b;simp[EF]
  exact⟨false,false,false,false,false,false,undef,undef,undef,undef,0,0,rfl,(by subst hA;simp only[nr]),⟨by rw[jq];exact jg.out,ac,(λe=>by cases e),(λe=>by cases e),(λe=>by cases e),(λe=>by cases e),(λe=>by cases e),(λe=>by cases e),(λe=>by cases e)⟩⟩
 case rest=>
  obtain⟨F,C,rfl,rfl,jr,gF,gC,hm,gi,gh,O⟩:=hcut;rename World=>w4
  have ja:=hid O;have di:=hid (show E2 Mo from by rw[ef.out];exact .inr rfl)
  have fx:=hid (show CM (EC E2 F C) Z B0 B M Mo F C l s w4 ⟨[],zJ s.dom,st⟩ (zJ s.dom) from
   ⟨hm,⟨[],f9.of_block (O.block Mo jx trivial),trivial⟩,gi,gh,⟨.inl di.out,.inr (.inl rfl),.inr (.inr rfl)⟩,by omega,by omega,jr,by omega,by omega,by omega,by omega,by omega,by omega⟩)
  have kh:F<w4.heap.size:=by obtain⟨A,c,h1,_⟩:=gi;exact h1.lt
  have kg:C<w4.heap.size:=by obtain⟨A,c,h1,_⟩:=gh;exact h1.lt
  have bi:=hid ((bb.below ca bb.lt).keep O trivial);have i8:=hid ((er.below ca er.lt).keep O trivial);have i9:=hid ((es.below ca es.lt).keep O trivial);have eh:=hid (zEq dj O.below (E':=EC E2 F C) (λb d=>d.imp id λe=>by omega));have cr:=hid (zEq bj O.below (E':=EC E2 F C) (λb d=>d.imp id λe=>by omega));have cs:=hid (zEq bk O.below (E':=EC E2 F C) (λb d=>d.imp id λe=>by omega));have gw:=hid (ca.trans (O.below.mono ca.size));have kx:=ca.size;have ky:=O.size;have ei:=hid (show ∀b,¬EC E2 F C b->KP B M Mo F C b from λb d=>⟨λe=>d (.inl (e▸cn.1)),λe=>d (.inl (e▸cn.2)),λe=>d (.inl (e▸di)),λe=>d (.inr (.inl e)),λe=>d (.inr (.inr e))⟩);have a8:=hid (show KP B M Mo F C w.heap.size from⟨by omega,by omega,by omega,by omega,by omega⟩);have g8:=hid (show KP B M Mo F C (w.heap.size+1+1+1) from⟨by omega,by omega,by omega,by omega,by omega⟩);have g9:=hid (show KP B M Mo F C (w.heap.size+1+1+1+1) from⟨by omega,by omega,by omega,by omega,by omega⟩);clear hm gi gh O ej f9 bb dr ds er es dj bj bk HC ja f6;obtain⟨A9,j6,rfl,ju⟩:=zO.form eh.out;obtain⟨i0,jm,rfl,ij⟩:=zO.form cr.out;obtain⟨i1,jn,rfl,ik⟩:=zO.form cs.out;simp only[List.length_map]at ju ij ik eh cr cs⊢;obtain⟨vl,vd,va,vz,vc,b1,b2,b3⟩:=fx.sm.box;obtain⟨AA,j5,rfl,km,ko,kj⟩:=b3.a.form
  have jh:=hid (λk(O:k<s.auths.length)=>(show ∃b H,AA=some ⟨b,H,none⟩/\KP B M Mo F C b/\w4.cell? ⟨b,H+k,none⟩=some (.string s.auths[k]) from by
   obtain⟨b,H,e,af,_,hc⟩:=Names.at_ b3.a O
   exact⟨b,H,e,ei b (fx.sm.z b af).2,hc⟩))
  have ek:=hid (λk(O:k<X.length)=>(show ∃b H,A9=some ⟨b,H,none⟩/\KP B M Mo F C b/\w4.cell? ⟨b,H+k,none⟩=some (.int .i64 (X[k]:Int)) from by
   obtain⟨b,H,e,af,_,hc⟩:=zO.at_ eh (i:=k) (by rw[List.length_map];exact O);rw[List.getElem_map]at hc
   exact⟨b,H,e,ei b af,hc⟩))
  have hh:=hid (λk(O:k<J.length)=>(show ∃b H,i0=some ⟨b,H,none⟩/\KP B M Mo F C b/\w4.cell? ⟨b,H+k,none⟩=some (.int .i64 (J[k]:Int)) from by
   obtain⟨b,H,e,af,_,hc⟩:=zO.at_ cr (i:=k) (by rw[List.length_map];exact O);rw[List.getElem_map]at hc
   exact⟨b,H,e,ei b af,hc⟩))
  have hi:=hid (λk(O:k<L3.length)=>(show ∃b H,i1=some ⟨b,H,none⟩/\KP B M Mo F C b/\w4.cell? ⟨b,H+k,none⟩=some (.int .i64 (L3[k]:Int)) from by
   obtain⟨b,H,e,af,_,hc⟩:=zO.at_ cs (i:=k) (by rw[List.length_map];exact O);rw[List.getElem_map]at hc
   exact⟨b,H,e,ei b af,hc⟩))
  have p0:=bi.at0;have pl:=bi.lt;have c2:=b1.at2;have cl:=b1.lt;clear b1 b2 b3 eh cr cs;go_wp2_with fail
  clear p0 pl c2 cl;go_loopw[16,46] (λ_ i wr=>∃(k:Nat),k<=s.auths.length/\i= .int .i64 k/\Hid (CM (EC E2 F C) Z B0 B M Mo F C l s wr ((s.auths.take k).foldl (zCE s.dom l X J) ⟨[],zJ s.dom,st⟩) (zJ s.dom))/\zA (KP B M Mo F C) w4 wr) (λ_ i _=>s.auths.length-(intOf i).toNat);case atStart=>exact⟨0,Nat.zero_le _,rfl,fx.out,zA.refl _ _⟩
  case round=>
   obtain⟨k,O,rfl,Q,D⟩:=hrel;by_cases ex:k<s.auths.length
   ·obtain⟨b,H,rfl,af,hc⟩:=jh k ex;have a4:=D.cell (p:=⟨b,H+k,none⟩) af hc;have ch:=lt_of_cell a4
    have i2:=hid (show(s.auths.take (k+1)).foldl (zCE s.dom l X J) ⟨[],zJ s.dom,st⟩=zCE s.dom l X J ((s.auths.take k).foldl (zCE s.dom l X J) ⟨[],zJ s.dom,st⟩) s.auths[k] from by
     rw[zXN ex,List.foldl_append];rfl)
    generalize (s.auths.take k).foldl (zCE s.dom l X J) ⟨[],zJ s.dom,st⟩=q at*;generalize s.auths[k]=N at*;have de:=hid Q.out;have fc:=hid D;have I:=bi.keep D a8.out;have p0:=I.at0;have pl:=I.lt;(have kr:(k:Int)<(s.auths.length:Int):=by omega);clear Q D hc;(go_upto_region 8 with fail);clear a4 ch;(go_wp2_with fail);refine de.sm.never.mono ?_;rintro e w5 ⟨NA,ka,rfl,ir,gf⟩;have db:=hid (de.below gf);have g7:=hid (fc.trans (.of_below gf));have hl:=hid ir;obtain⟨k3,im,iw⟩:=db.own;clear ir gf de fc p0 pl I;(go_upto_region 9 with(at_mapUpdate;refine zA6 rfl (.tmp 50) (.tmp 51) _ rfl (zAK (P:=prog) (k:=9) underlying9) (e:=74) underlying127 rfl im N rfl ?_;intro w6 io gl iy ib ig));have gx:=hid (db.setO iw hl io gl);have jb:=hid (g7.trans (gl.mono λb _ d=>d.2.2.1));clear io gl iy ib ig im iw db g7 hl;have ku:(zJ s.dom,q.st)=(zJ s.dom,q.st):=rfl;have e2:=hid (show zCE s.dom l X J q N=(let r:=X.foldl (zB5 s.dom l J N) (zJ s.dom,q.st);⟨zAp q.own N r.1,(zAt s.dom r.2.err q.forb r.1).1,⟨(zAt s.dom r.2.err q.forb r.1).2,r.2.built⟩⟩) from rfl);(go_wp2_with fail);go_loopw[18,19,20,56] (λ_ _ _ i wr=>∃(j:Nat),j<=X.length/\i= .int .i64 j/\Hid (CM (EC E2 F C) Z B0 B M Mo F C l s wr ⟨zAp q.own N ((X.take j).foldl (zB5 s.dom l J N) (zJ s.dom,q.st)).1,q.forb,((X.take j).foldl (zB5 s.dom l J N) (zJ s.dom,q.st)).2⟩ (zJ s.dom))/\zA (KP B M Mo F C) w4 wr) (λ_ _ _ i _=>X.length-(intOf i).toNat);case atStart=>exact⟨0,Nat.zero_le _,rfl,gx.out,jb⟩
    case round=>
     obtain⟨j,hj,rfl,Q,D⟩:=hrel;by_cases cj:j<X.length
     ·obtain⟨b,H,rfl,af,hc⟩:=ek j cj;have a4:=D.cell (p:=⟨b,H+j,none⟩) af hc;have ch:=lt_of_cell a4;have ci:=ee.1.1 X[j] (List.getElem_mem cj)
      have cd:=hid (show(X.take (j+1)).foldl (zB5 s.dom l J N) (zJ s.dom,q.st)=zB5 s.dom l J N ((X.take j).foldl (zB5 s.dom l J N) (zJ s.dom,q.st)) X[j] from by
       rw[zXN cj,List.foldl_append];rfl)
      generalize (X.take j).foldl (zB5 s.dom l J N) (zJ s.dom,q.st)=r at*;generalize X[j]=ii at*;(have jt:(j:Int)<(X.length:Int):=by omega);(have js:(ii:Int)<(l.length:Int):=by omega);have aw:=hid Q.out;have ao:=hid D;have I:=bi.keep D a8.out;have p0:=I.at0;have pl:=I.lt;obtain⟨vl,vd,va,vz,vc,b1,b2,b3⟩:=Q.sm.box;obtain⟨LA,fp,rfl,il⟩:=zj.form b2;obtain⟨mb,mo,FA,R,rfl,-,dc⟩:=zn.cells b2 (P:=λ_=>True) (λ_ _=>trivial) ci;obtain⟨c0,c1,c2,c3,c4,c5,c6,c7,c8,c9,dx,dy⟩:=zBQ dc;have dz:=lt_of_cell c0;have d0:=b1.at0;have dl:=b1.lt;have bs:zq l ii=l[ii]:=by unfold zq;simp[ci]
      have fz:=hid (show zB5 s.dom l J N r ii=(if l[ii].auth ≠N then r else(let r2:=J.foldl (zBe s.dom l N l[ii].id) (ofM s.dom l r.2 ii);((zAt s.dom r2.2.err r.1 r2.1).1,⟨(zAt s.dom r2.2.err r.1 r2.1).2,r2.2.built⟩))) from by
       unfold zB5;rw[bs])
      clear Q D hc b1 b2 b3 dc bs;generalize l[ii]=m at*;obtain⟨id,ma,da,tg,⟨op,nm,cm,nu,kids⟩,fr,un,wi⟩:=m;simp only[Fm.op,Fm.name,Fm.cmp,Fm.num,Fm.kids]at fz c0 c1 c2 c3 c4 c5 c6 c7 c8 c9 dx dy;generalize kids.length=kl at*;have ck:=hid (aw.below ((Below.refl wr.heap.size wr).alloc (Nat.le_refl _) (.cells #[.string id,.string ma,.int .i64 da,.string tg,.int .i64 op,.string nm,.int .i64 cm,.int .i64 nu,.slice FA kl R,.int .i64 fr,.int .i64 un,.int .i64 wi] 54)));have f1:=hid (ao.alloc (.cells #[.string id,.string ma,.int .i64 da,.string tg,.int .i64 op,.string nm,.int .i64 cm,.int .i64 nu,.slice FA kl R,.int .i64 fr,.int .i64 un,.int .i64 wi] 54));have dw:=hid (Blk.new wr 54 #[.string id,.string ma,.int .i64 da,.string tg,.int .i64 op,.string nm,.int .i64 cm,.int .i64 nu,.slice FA kl R,.int .i64 fr,.int .i64 un,.int .i64 wi]);have a7:=I.alloc (.cells #[.string id,.string ma,.int .i64 da,.string tg,.int .i64 op,.string nm,.int .i64 cm,.int .i64 nu,.slice FA kl R,.int .i64 fr,.int .i64 un,.int .i64 wi] 54);(have kz:wr.heap.size<(wr.alloc (.cells #[.string id,.string ma,.int .i64 da,.string tg,.int .i64 op,.string nm,.int .i64 cm,.int .i64 nu,.slice FA kl R,.int .i64 fr,.int .i64 un,.int .i64 wi] 54)).heap.size :=by simp);have jy:w4.heap.size<=wr.heap.size:=ao.size;(go_upto_region 13 with fail);clear c0 c1 c2 c3 c4 c5 c6 c7 c8 c9 dx dy dz d0 dl a4 ch I aw ao p0 pl;generalize wr.alloc _=w7 at*;generalize wr.heap.size=jl at*;have p0:=a7.at0;have pl:=a7.lt;obtain⟨o0,gs,o1,gu,ol⟩:=dw.out.d2;clear a7;by_cases ey:ma=N
      ·(have jv:(ma.toList==N.toList)=true:=by rw[zBK];simp[ey]);have cq:=hid (fz.trans (if_neg (by simp[ey])));(go_wp2_with fail);refine(ck.sm.of ii ci hs).mono ?_;rintro e w8 ⟨GA,aq,rfl,iu,ip,ev⟩;have e8:=hid (ck.call ip ev);have hq:=hid iu;(have jw:∀b,b≠B/\b≠M->True:=λ_ _=>trivial);have gb:=hid (dw.keep ev ⟨by omega,by omega⟩);have f2:=hid (f1.trans (ev.mono λb _ d=>⟨d.1,d.2.1⟩));clear iu ip ev p0 pl o0 o1 gs gu ol ck dw f1 jw;generalize ia:ofM s.dom l r.2 ii=G at*;have kb:=hid ia;clear ia;(go_upto_region 15 with fail);have gy:=hid (e8.more ((Below.refl w8.heap.size w8).alloc (Nat.le_refl _) (.cells #[.slice GA G.1.length aq] 74)) (E':=λb=>EC E2 F C b\/b=w8.heap.size) (λb d=> .inl d) (λb d=>d.imp (λh=>h) λe=>by simp;omega));have ek:=hid (zQ.nodes_more hq ((Below.refl w8.heap.size w8).alloc (Nat.le_refl _) (.cells #[.slice GA G.1.length aq] 74)) (E':=λb=>EC E2 F C b\/b=w8.heap.size) (λb d=>d.imp (λh=>h) λe=>by omega));have i3:=hid (show zE0 (λb=>EC E2 F C b\/b=w8.heap.size) (w8.alloc (.cells #[.slice GA G.1.length aq] 74)) w8.heap.size G.1 from⟨GA,aq,Blk.new _ _ _,ek⟩);have jj:=hid (gb.alloc (.cells #[.slice GA G.1.length aq] 74));have jc:=hid (f2.alloc (.cells #[.slice GA G.1.length aq] 74));(have k0:w8.heap.size<(w8.alloc (.cells #[.slice GA G.1.length aq] 74)).heap.size :=by simp);have j8:w4.heap.size<=w8.heap.size:=f2.size;have jz:jl<w8.heap.size:=gb.lt;clear e8 hq gb f2 ek;generalize w8.alloc _=w9 at*;generalize w8.heap.size=ai at*;(go_wp2_with fail);go_loopw[22,23,76] (λ_ _ i wr=>∃(p:Nat),p<=J.length/\i= .int .i64 p/\Hid (CM (λb=>EC E2 F C b\/b=ai) Z B0 B M Mo F C l s wr ⟨zAp q.own N r.1,q.forb,((J.take p).foldl (zBe s.dom l N id) G).2⟩ (zJ s.dom))/\Hid (zE0 (λb=>EC E2 F C b\/b=ai) wr ai ((J.take p).foldl (zBe s.dom l N id) G).1)/\zA (λb=>b≠B/\b≠M/\b≠ai) w9 wr) (λ_ _ i _=>J.length-(intOf i).toNat);case atStart=>exact⟨0,Nat.zero_le _,rfl,gy.out,i3.out,zA.refl _ _⟩
       case round=>
        obtain⟨p,hp,rfl,Q,eu,D⟩:=hrel;have cy:=hid (((jc.mono (Z':=λb=>KP B M Mo F C b/\b<w4.heap.size) λb _ hz=>hz.1).trans (D.mono λb _ hz=>⟨hz.1.1,hz.1.2.1,by omega⟩)).mono λb d hz=>(show KP B M Mo F C b/\b<w4.heap.size from⟨hz,d⟩));have h0:=hid (jj.keep D ⟨by omega,by omega,by omega⟩);by_cases gm:p<J.length
        ·obtain⟨b,H,rfl,af,hc⟩:=hh p gm;have a4:=cy.cell (p:=⟨b,H+p,none⟩) af hc;have ch:=lt_of_cell a4;have d7:=ee.2.1.1 J[p] (List.getElem_mem gm)
         have cx:=hid (show(J.take (p+1)).foldl (zBe s.dom l N id) G=zBe s.dom l N id ((J.take p).foldl (zBe s.dom l N id) G) J[p] from by
          rw[zXN gm,List.foldl_append];rfl)
         generalize (J.take p).foldl (zBe s.dom l N id) G=g2 at*;generalize J[p]=kk at*;(have kv:(p:Int)<(J.length:Int):=by omega);(have ea:(kk:Int)<(l.length:Int):=by omega);have e9:=hid Q.out;have fa:=hid eu.out;have dm:=hid D;have I:=bi.keep cy a8.out;have p0:=I.at0;have pl:=I.lt;obtain⟨vl,vd,va,vz,vc,b1,b2,b3⟩:=Q.sm.box;obtain⟨LA,fp,rfl,il⟩:=zj.form b2;obtain⟨mb,mo,bg,Y,rfl,-,dc⟩:=zn.cells b2 (P:=λ_=>True) (λ_ _=>trivial) d7;obtain⟨c0,c1,c2,c3,c4,c5,c6,c7,c8,c9,dx,dy⟩:=zBQ dc;have dz:=lt_of_cell c0;have d0:=b1.at0;have dl:=b1.lt;have bs:zq l kk=l[kk]:=by unfold zq;simp[d7]
         have cc:=hid (show zBe s.dom l N id g2 kk=(if l[kk].auth =N/\l[kk].target =id then((zBH s.dom (ofM s.dom l g2.2 kk).2.err g2.1 (zXP (ofM s.dom l g2.2 kk).1)).1,⟨(zBH s.dom (ofM s.dom l g2.2 kk).2.err g2.1 (zXP (ofM s.dom l g2.2 kk).1)).2,(ofM s.dom l g2.2 kk).2.built⟩)else g2) from by
          unfold zBe;rw[bs])
         clear Q eu D hc b1 b2 b3 dc bs;generalize l[kk]=m at*;obtain⟨bt,a5,ar,a6,⟨bx,bv,bp,bw,gq⟩,bq,b8,b9⟩:=m;simp only[Fm.op,Fm.name,Fm.cmp,Fm.num,Fm.kids]at cc c0 c1 c2 c3 c4 c5 c6 c7 c8 c9 dx dy;generalize gq.length=bu at*;have a3:Bw wr (wr.alloc (.cells #[.string bt,.string a5,.int .i64 ar,.string a6,.int .i64 bx,.string bv,.int .i64 bp,.int .i64 bw,.slice bg bu Y,.int .i64 bq,.int .i64 b8,.int .i64 b9] 54)):=(Below.refl wr.heap.size wr).alloc (Nat.le_refl _) (.cells #[.string bt,.string a5,.int .i64 ar,.string a6,.int .i64 bx,.string bv,.int .i64 bp,.int .i64 bw,.slice bg bu Y,.int .i64 bq,.int .i64 b8,.int .i64 b9] 54);have a9:=hid (e9.below a3);have ba:=hid (fa.keep (.of_below a3));have dk:=hid (dm.alloc (.cells #[.string bt,.string a5,.int .i64 ar,.string a6,.int .i64 bx,.string bv,.int .i64 bp,.int .i64 bw,.slice bg bu Y,.int .i64 bq,.int .i64 b8,.int .i64 b9] 54));have jd:=hid (cy.alloc (.cells #[.string bt,.string a5,.int .i64 ar,.string a6,.int .i64 bx,.string bv,.int .i64 bp,.int .i64 bw,.slice bg bu Y,.int .i64 bq,.int .i64 b8,.int .i64 b9] 54));have hw:=hid (Blk.new wr 54 #[.string bt,.string a5,.int .i64 ar,.string a6,.int .i64 bx,.string bv,.int .i64 bp,.int .i64 bw,.slice bg bu Y,.int .i64 bq,.int .i64 b8,.int .i64 b9]);have ga:=hid (h0.alloc (.cells #[.string bt,.string a5,.int .i64 ar,.string a6,.int .i64 bx,.string bv,.int .i64 bp,.int .i64 bw,.slice bg bu Y,.int .i64 bq,.int .i64 b8,.int .i64 b9] 54));have a7:=I.alloc (.cells #[.string bt,.string a5,.int .i64 ar,.string a6,.int .i64 bx,.string bv,.int .i64 bp,.int .i64 bw,.slice bg bu Y,.int .i64 bq,.int .i64 b8,.int .i64 b9] 54);have j7:w9.heap.size<=wr.heap.size:=dm.size;(go_upto_region 19 with fail);clear c0 c1 c2 c3 c4 c5 c6 c7 c8 c9 dx dy dz d0 dl a4 ch I e9 fa dm cy h0 p0 pl a3;generalize wr.alloc _=ae at*;generalize wr.heap.size=kf at*;have p0:=a7.at0;have pl:=a7.lt;obtain⟨o0,gs,o1,gu,o2,j1,o3,j2,ol⟩:=hw.out.d4;obtain⟨e0,jo,el⟩:=ga.out.d1;by_cases ct:a5=N
         ·(have fl:(a5.toList==N.toList)=true:=by rw[zBK];simp[ct]);by_cases cv:a6=id
          ·(have fo:(a6.toList==id.toList)=true:=by rw[zBK];simp[cv]);have ak:=hid (cc.trans (if_pos ⟨ct,cv⟩));clear cc;(go_upto_region 20 with fail);clear o0 o1 o2 o3 gs gu j1 j2 ol e0 jo el fl fo;obtain⟨QA,ab,aa,ag⟩:=ba.out;have ce:=hid aa;have ah:=hid ag;have ji:=hid a7;have j9:ai<ae.heap.size:=aa.lt;clear aa ag a7 p0 pl ba
           have HC:=hid (λ(W:World)(hW:zA (λb=>b≠B/\b≠M) ae W)=>(show W.cell? ⟨w.heap.size,0,none⟩=some (.pointer (some ⟨B,0,none⟩))/\w.heap.size<W.heap.size/\W.cell? ⟨ai,0,none⟩=some (.slice QA g2.1.length ab)/\ai<W.heap.size from by
            have h1:=ji.keep hW ⟨by omega,by omega⟩;have h2:=ce.keep hW ⟨by omega,by omega⟩
            exact⟨h1.at0,h1.lt,h2.at0,h2.lt⟩))
           refine zY 7 (λW=>zA (λb=>b≠B/\b≠M) ae W) (by kernel_rfl) ?_;have ac:zA (λb=>b≠B/\b≠M) ae ae.drew:=(zA.refl _ _).drew;have hS:(λW=>zA (λb=>b≠B/\b≠M) ae W) ae.drew:=ac;have U:=hid (a9.below (Below.refl _ _).drew);have az:=hid (ah.keep (zA.refl _ _).drew);clear a9 ah;generalize ae.drew=x0 at*
           (refine tkS 0 ?_ hS ?_ ?_;rotate_left;intro w n;obtain⟨a0,al,b0,bl⟩:=HC _ n;clear n;go_simp;(try with_reducible rfl);simp only[nr])
           try simp only[nq]
           (refine tkS 1 ?_ hS ?_ ?_;rotate_left;intro w n;obtain⟨a0,al,b0,bl⟩:=HC _ n;clear n;go_simp;(try with_reducible rfl);simp only[nr])
           try simp only[nq]
           (refine tkS 2 ?_ hS ?_ ?_;rotate_left;intro w n;obtain⟨a0,al,b0,bl⟩:=HC _ n;clear n;go_simp;(try with_reducible rfl);simp only[nr])
           try simp only[nq]
           (refine tkQ 3 hS ?_;simp only[nr])
           (try simp only[nq]);clear hS;refine wS1 4 (λK T=> ?_);(go_wp2_with fail);refine(U.sm.of kk d7 hs).mono ?_;rintro e x1 ⟨OA,iz,rfl,hn,hm,O⟩;have cf:=ac.trans O;have aj:=hid (U.call hm O);have bm:=hid (U.nodes az O);have dq:=hid hn;refine T _ _ (Or.inr cf) ?_;clear T K hn hm O U az ac
           (try simp only[nr])
           generalize et:ofM s.dom l g2.2 kk=OG at*;have kc:=hid et;clear et;refine wS1 5 (λK T=> ?_);(go_wp2_with fail);refine(zGY dq λb d=>(aj.sm.e b d).1).mono ?_;rintro e x2 ⟨jk,gr,rfl,hn,d⟩;have cg:=cf.trans (.of_below d);have av:=hid (aj.below d);have bn:=hid (bm.keep (.of_below d));have dp:=hid hn;refine T _ _ (Or.inr cg) ?_;clear T K hn d aj bm dq cf
           (try simp only[nr])
           refine wS1 6 (λK T=> ?_);(go_wp2_with fail);refine(av.sm.and bn dp).mono ?_;rintro e x3 ⟨RA,bz,rfl,hn,hm,O⟩;have bc:=cg.trans O;have bh:=hid (av.call hm O);have du:=hid hn;refine T _ _ (Or.inr bc) ?_;clear T K hn hm O av bn dp cg
           (try simp only[nr])
           have ap:=hid (ce.keep bc ⟨by omega,by omega⟩);have f0:=hid bc;clear bc;have z0:=ap.at0;have zf:=ap.frozen 0;have zl:=ap.lt;refine wS1 7 (λK T=> ?_);(go_wp2_with fail);refine T _ _ (Or.inl rfl) ?_;clear T K;(try simp only[nq]);refine wSd ?_ _;(go_wp2_with fail);have ew:zA (λb=>b≠ai) x3 (x3.setCell ⟨ai,0,none⟩ (.slice RA (zBH s.dom OG.2.err g2.1 (zXP OG.1)).1.length bz)):=(zA.refl _ _).setCell (λ_ h=>h rfl) _
           have dd:=hid (bh.gen (ew.mono λb _ d=>by
            rcases d with d|d|d|d|d|d
            ·exact λe=>d (.inr e)
            all_goals omega))
           have g3:=hid (show zE0 (λb=>EC E2 F C b\/b=ai) (x3.setCell ⟨ai,0,none⟩ (.slice RA (zBH s.dom OG.2.err g2.1 (zXP OG.1)).1.length bz)) ai (zBH s.dom OG.2.err g2.1 (zXP OG.1)).1 from⟨RA,bz,ap.set_ 0 _,du.keep (ew.mono λb _ d e=>d (.inr e))⟩);have f3:=hid ((dk.trans (f0.mono λb _ d=>⟨d.1,d.2.1⟩)).trans (ew.mono λb _ d=>d.2.2));clear ew bh du;go_roundw
           case rel=>
            refine⟨p+1,by omega,by go_num,?_,?_,f3⟩
            ·rw[cx.out,ak.out];exact dd.out
            rw[cx.out,ak.out];exact g3.out
           case measure=>simp[intOf];omega
          (have fo:(a6.toList==id.toList)=false:=by rw[zBK];simp[cv]);have ak:=hid (cc.trans (if_neg (λh=>cv h.2)));clear cc;(go_wp2_with fail);go_roundw;(case rel=>exact⟨p+1,by omega,by go_num,by rw[cx.out,ak.out];exact a9.out,by rw[cx.out,ak.out];exact ba.out,dk⟩);case measure=>simp[intOf];omega
         (have fl:(a5.toList==N.toList)=false:=by rw[zBK];simp[ct]);have ak:=hid (cc.trans (if_neg (λh=>ct h.1)));clear cc;(go_wp2_with fail);go_roundw;(case rel=>exact⟨p+1,by omega,by go_num,by rw[cx.out,ak.out];exact a9.out,by rw[cx.out,ak.out];exact ba.out,dk⟩);case measure=>simp[intOf];omega
        (obtain rfl:p=J.length:=by omega);have V:=hid Q.out;have dh:=hid eu.out;rw[List.take_length]at V dh;have g6:=hid (show zB5 s.dom l J N r ii=((zAt s.dom (J.foldl (zBe s.dom l N id) G).2.err r.1 (J.foldl (zBe s.dom l N id) G).1).1,⟨(zAt s.dom (J.foldl (zBe s.dom l N id) G).2.err r.1 (J.foldl (zBe s.dom l N id) G).1).2,(J.foldl (zBe s.dom l N id) G).2.built⟩) from cq);generalize J.foldl (zBe s.dom l N id) G=gz at*;obtain⟨ez,bd,bf⟩:=V.own
        obtain⟨VA,u,d5,ec⟩:∃VA u,zAA ez N=some (.agg #[.slice VA r.1.length u])/\zK (λb=>¬(EC E2 F C b\/b=ai)) wr (.slice VA r.1.length u) r.1:=by
         rcases bf.get N with⟨h1,h2⟩|⟨v,g,h1,h2,h3⟩
         ·rw[mapD_same]at h2;cases h2
         rw[mapD_same]at h2;injection h2 with h2;subst h2;obtain⟨VA,u,rfl,-⟩:=h3.open_;exact⟨VA,u,h1,h3⟩
        have ad:=zS.look (w:=wr) bd (zAK (P:=prog) (k:=9) underlying9) (t:=127) (e:=74) underlying127 (Tryz.zeroDiaE _) N false;simp only[Bool.false_eq_true,if_false,encS]at ad;rw[d5]at ad;simp only[Option.getD_some]at ad;obtain⟨QA,ab,aa,ag⟩:=dh.out;have bo:=hid ec;have ah:=hid ag;have I:=bi.keep cy a8.out;have p0:=I.at0;have pl:=I.lt;have y0:=aa.at0;have yl:=aa.lt;clear Q eu bd bf d5 ec ag aa I cq;(go_wp2_with fail);refine(V.sm.union bo ah).mono ?_;rintro e j4 ⟨UA,fq,rfl,hn,hm,O⟩;have ay:=hid (V.call hm O);have dv:=hid hn;have dn:=hid (cy.trans (O.mono λb _ d=>⟨d.1,d.2.1⟩));obtain⟨k4,iq,ix⟩:=ay.own;clear hn hm O p0 pl y0 yl ad V bo ah dh;go_wp2_with(at_mapUpdate;refine zA6 rfl (.tmp 106) (.tmp 107) _ rfl (zAK (P:=prog) (k:=9) underlying9) (e:=74) underlying127 rfl iq N rfl ?_;intro k5 fk d8 gn gg gj);have dg:=hid (((ay.setO ix dv fk d8).less (E:=EC E2 F C) (λb d=> .inl d) (.inl cn.1) (.inl cn.2) ⟨.inl di.out,.inr (.inl rfl),.inr (.inr rfl)⟩));have f5:=hid (dn.trans (d8.mono λb _ d=>d.2.2.1));clear fk d8 gn gg gj iq ix ay dv dn;go_roundw
        case rel=>
         refine⟨j+1,by omega,by go_num,?_,f5⟩;rw[cd.out,g6.out];have h1:=dg.out;dsimp only at h1;rw[zI3]at h1;exact h1
        case measure=>simp[intOf];omega
      (have jv:(ma.toList==N.toList)=false:=by rw[zBK];simp[ey]);have cq:=hid (fz.trans (if_pos ey));(go_wp2_with fail);go_roundw;(case rel=>exact⟨j+1,by omega,by go_num,by rw[cd.out,cq.out];exact ck.out,f1⟩);case measure=>simp[intOf];omega
     (obtain rfl:j=X.length:=by omega);have V:=hid Q.out;have ha:=hid D;rw[List.take_length]at V;have fs:=hid (show zCE s.dom l X J q N=⟨zAp q.own N (X.foldl (zB5 s.dom l J N) (zJ s.dom,q.st)).1,(zAt s.dom (X.foldl (zB5 s.dom l J N) (zJ s.dom,q.st)).2.err q.forb (X.foldl (zB5 s.dom l J N) (zJ s.dom,q.st)).1).1,⟨(zAt s.dom (X.foldl (zB5 s.dom l J N) (zJ s.dom,q.st)).2.err q.forb (X.foldl (zB5 s.dom l J N) (zJ s.dom,q.st)).1).2,(X.foldl (zB5 s.dom l J N) (zJ s.dom,q.st)).2.built⟩⟩ from e2);generalize X.foldl (zB5 s.dom l J N) (zJ s.dom,q.st)=rz at*;obtain⟨ez,bd,bf⟩:=V.own
     obtain⟨VA,u,d5,ec⟩:∃VA u,zAA ez N=some (.agg #[.slice VA rz.1.length u])/\zK (λb=>¬EC E2 F C b) wr (.slice VA rz.1.length u) rz.1:=by
      rcases bf.get N with⟨h1,h2⟩|⟨v,g,h1,h2,h3⟩
      ·rw[mapD_same]at h2;cases h2
      rw[mapD_same]at h2;injection h2 with h2;subst h2;obtain⟨VA,u,rfl,-⟩:=h3.open_;exact⟨VA,u,h1,h3⟩
     have ad:=zS.look (w:=wr) bd (zAK (P:=prog) (k:=9) underlying9) (t:=127) (e:=74) underlying127 (Tryz.zeroDiaE _) N false;simp only[Bool.false_eq_true,if_false,encS]at ad;rw[d5]at ad;simp only[Option.getD_some]at ad;obtain⟨QA,ab,aa,ag⟩:=V.fb;have bo:=hid ec;have ah:=hid ag;have I:=bi.keep ha a8.out;have p0:=I.at0;have pl:=I.lt;have y0:=aa.at0;have yl:=aa.lt;clear Q D bd bf d5 ec ag aa I e2;(go_wp2_with fail);refine(V.sm.union ah bo).mono ?_;rintro e j4 ⟨UA,fq,rfl,hn,hm,O⟩;have ay:=hid (V.call hm O);have dv:=hid hn;have dn:=hid (ha.trans (O.mono λb _ d=>⟨d.1,d.2.1⟩));obtain⟨ke,j3,cu,-⟩:=ay.fb;have y0:=cu.at0;have yf:=cu.frozen 0;have yl:=cu.lt;clear hn hm O p0 pl ad V bo ah cu;(go_wp2_with fail);have dg:=hid (ay.setF dv);have f5:=hid (dn.setCell (p:=⟨F,0,none⟩) (λ_ hz=>hz.2.2.2.1 rfl) (.slice UA (zAt s.dom rz.2.err q.forb rz.1).1.length fq));clear ay dv dn;go_roundw;(case rel=>exact⟨k+1,by omega,by go_num,hid (by rw[i2.out,fs.out];exact dg),f5⟩);case measure=>simp[intOf];omega
   (obtain rfl:k=s.auths.length:=by omega);have ax:=hid Q.out;have f4:=hid D;rw[List.take_length]at ax;have g1:=hid (show CS=((s.auths.foldl (zCE s.dom l X J) ⟨[],zJ s.dom,st⟩).forb,(L3.foldl (zCW s.dom l (s.auths.foldl (zCE s.dom l X J) ⟨[],zJ s.dom,st⟩).own) (zJ s.dom,(s.auths.foldl (zCE s.dom l X J) ⟨[],zJ s.dom,st⟩).st)).1,(L3.foldl (zCW s.dom l (s.auths.foldl (zCE s.dom l X J) ⟨[],zJ s.dom,st⟩).own) (zJ s.dom,(s.auths.foldl (zCE s.dom l X J) ⟨[],zJ s.dom,st⟩).st)).2) from fy);generalize s.auths.foldl (zCE s.dom l X J) ⟨[],zJ s.dom,st⟩=q at*;clear Q D fy;(go_wp2_with fail);go_loopw[25,26,27,124] (λ_ _ _ i wr=>∃(j:Nat),j<=L3.length/\i= .int .i64 j/\Hid (CM (EC E2 F C) Z B0 B M Mo F C l s wr ⟨q.own,q.forb,((L3.take j).foldl (zCW s.dom l q.own) (zJ s.dom,q.st)).2⟩ ((L3.take j).foldl (zCW s.dom l q.own) (zJ s.dom,q.st)).1)/\zA (KP B M Mo F C) w4 wr) (λ_ _ _ i _=>L3.length-(intOf i).toNat);case atStart=>exact⟨0,Nat.zero_le _,rfl,ax.out,f4⟩
   case round=>
    obtain⟨j,hj,rfl,Q,D⟩:=hrel;by_cases cj:j<L3.length
    ·obtain⟨b,H,rfl,af,hc⟩:=hi j cj;have a4:=D.cell (p:=⟨b,H+j,none⟩) af hc;have ch:=lt_of_cell a4;have ci:=ee.2.2.1 L3[j] (List.getElem_mem cj)
     have cd:=hid (show(L3.take (j+1)).foldl (zCW s.dom l q.own) (zJ s.dom,q.st)=zCW s.dom l q.own ((L3.take j).foldl (zCW s.dom l q.own) (zJ s.dom,q.st)) L3[j] from by
      rw[zXN cj,List.foldl_append];rfl)
     generalize (L3.take j).foldl (zCW s.dom l q.own) (zJ s.dom,q.st)=r at*;generalize L3[j]=ii at*;(have jt:(j:Int)<(L3.length:Int):=by omega);(have js:(ii:Int)<(l.length:Int):=by omega);have aw:=hid Q.out;have ao:=hid D;have I:=bi.keep D a8.out;have p0:=I.at0;have pl:=I.lt;obtain⟨vl,vd,va,vz,vc,b1,b2,b3⟩:=Q.sm.box;obtain⟨LA,fp,rfl,il⟩:=zj.form b2;obtain⟨mb,mo,FA,R,rfl,-,dc⟩:=zn.cells b2 (P:=λ_=>True) (λ_ _=>trivial) ci;have c3:=dc 3 _ rfl;have dz:=lt_of_cell c3;have d0:=b1.at0;have dl:=b1.lt;have bs:zq l ii=l[ii]:=by unfold zq;simp[ci]
     have cw:=hid (show zCW s.dom l q.own r ii=(match mapD q.own l[ii].target with
      |none=>r
      |some g=>((zAt s.dom (zBH s.dom (ofM s.dom l r.2 ii).2.err (ofM s.dom l r.2 ii).1 g).2 r.1 (zBH s.dom (ofM s.dom l r.2 ii).2.err (ofM s.dom l r.2 ii).1 g).1).1,⟨(zAt s.dom (zBH s.dom (ofM s.dom l r.2 ii).2.err (ofM s.dom l r.2 ii).1 g).2 r.1 (zBH s.dom (ofM s.dom l r.2 ii).2.err (ofM s.dom l r.2 ii).1 g).1).2,(ofM s.dom l r.2 ii).2.built⟩)) from by
      unfold zCW;rw[bs];cases mapD q.own l[ii].target <;>rfl)
     clear Q D hc b1 b2 b3 dc bs;generalize l[ii].target =tg at*;obtain⟨ez,bd,bf⟩:=aw.own;have ad:=zS.look (w:=wr) bd (zAK (P:=prog) (k:=9) underlying9) (t:=127) (e:=74) underlying127 (Tryz.zeroDiaE _) tg true;simp only[if_true,encS]at ad;have jy:w4.heap.size<=wr.heap.size:=ao.size;rcases bf.get tg with⟨h1,h2⟩|⟨v,g,h1,h2,h3⟩
     ·rw[h1]at ad;simp only[Option.getD_none,Option.isSome_none]at ad;rw[h2]at cw;dsimp only at cw;clear bd bf h1 h2;(go_wp2_with fail);go_roundw;(case rel=>exact⟨j+1,by omega,by go_num,by rw[cd.out,cw.out];exact aw.below ((Below.refl _ _).alloc (Nat.le_refl _) _),ao.alloc _⟩);case measure=>simp[intOf];omega
     rw[h1]at ad;simp only[Option.getD_some,Option.isSome_some]at ad;rw[h2]at cw;dsimp only at cw;obtain⟨VA,u,rfl,-⟩:=h3.open_;have bo:=hid h3;clear bd bf h1 h2 h3;(go_upto_region 31 with fail);have a3:Bw wr (wr.alloc (.cells #[.slice VA g.length u] 74)):=(Below.refl _ _).alloc (Nat.le_refl _) _;have df:=hid (aw.below a3);have fh:=hid (bo.keep (.of_below a3));have hx:=hid (Blk.new wr 74 #[.slice VA g.length u]);have jf:=hid (ao.alloc (.cells #[.slice VA g.length u] 74));have a7:=hid (I.alloc (.cells #[.slice VA g.length u] 74));clear p0 pl c3 dz d0 dl a4 ch ad a3 I aw ao bo;generalize wr.alloc _=ae at*;generalize wr.heap.size=h4 at*;obtain⟨QA,ab,aa,ag⟩:=df.cb;have ce:=hid aa;have ah:=hid ag;clear aa ag
     have HC:=hid (λ(W:World)(hW:zA (λb=>b≠B/\b≠M) ae W)=>(show W.cell? ⟨w.heap.size,0,none⟩=some (.pointer (some ⟨B,0,none⟩))/\w.heap.size<W.heap.size/\W.cell? ⟨C,0,none⟩=some (.slice QA r.1.length ab)/\C<W.heap.size/\W.cell? ⟨h4,0,none⟩=some (.slice VA g.length u)/\h4<W.heap.size from by
      have h1:=a7.keep hW ⟨by omega,by omega⟩;have h2:=ce.keep hW ⟨by omega,by omega⟩;have h3:=hx.keep hW ⟨by omega,by omega⟩
      exact⟨h1.at0,h1.lt,h2.at0,h2.lt,h3.at0,h3.lt⟩))
     refine zY 9 (λW=>zA (λb=>b≠B/\b≠M) ae W) (by kernel_rfl) ?_;have ac:zA (λb=>b≠B/\b≠M) ae ae.drew:=(zA.refl _ _).drew;have hS:(λW=>zA (λb=>b≠B/\b≠M) ae W) ae.drew:=ac;have U:=hid (df.below (Below.refl _ _).drew);have az:=hid (ah.keep (zA.refl _ _).drew);have fi:=hid (fh.keep (zA.refl _ _).drew);clear df ah fh;generalize ae.drew=x0 at*
     (refine tkS 0 ?_ hS ?_ ?_;rotate_left;intro w n;obtain⟨a0,al,b0,bl,e0,el⟩:=HC _ n;clear n;go_simp;(try with_reducible rfl);simp only[nr])
     try simp only[nq]
     (refine tkS 1 ?_ hS ?_ ?_;rotate_left;intro w n;obtain⟨a0,al,b0,bl,e0,el⟩:=HC _ n;clear n;go_simp;(try with_reducible rfl);simp only[nr])
     try simp only[nq]
     (refine tkS 2 ?_ hS ?_ ?_;rotate_left;intro w n;obtain⟨a0,al,b0,bl,e0,el⟩:=HC _ n;clear n;go_simp;(try with_reducible rfl);simp only[nr])
     try simp only[nq]
     (refine tkS 3 ?_ hS ?_ ?_;rotate_left;intro w n;obtain⟨a0,al,b0,bl,e0,el⟩:=HC _ n;clear n;go_simp;(try with_reducible rfl);simp only[nr])
     try simp only[nq]
     (refine tkQ 4 hS ?_;simp only[nr])
     try simp only[nq]
     (refine tkS 6 ?_ hS ?_ ?_;rotate_left;intro w n;obtain⟨a0,al,b0,bl,e0,el⟩:=HC _ n;clear n;go_simp;(try with_reducible rfl);simp only[nr])
     (try simp only[nq]);clear hS;refine wS1 5 (λK T=> ?_);(go_wp2_with fail);refine(U.sm.of ii ci hs).mono ?_;rintro e x1 ⟨OA,iz,rfl,hn,hm,O⟩;have cf:=ac.trans O;have aj:=hid (U.call hm O);have bm:=hid (U.nodes az O);have fj:=hid (U.nodes fi O);have dq:=hid hn;refine T _ _ (Or.inr cf) ?_;clear T K hn hm O U az fi ac
     (try simp only[nr])
     generalize et:ofM s.dom l r.2 ii=OG at*;clear et;refine wS1 7 (λK T=> ?_);(go_wp2_with fail);refine(aj.sm.and dq fj).mono ?_;rintro e x2 ⟨jk,gr,rfl,hn,hm,O⟩;have cg:=cf.trans O;have av:=hid (aj.call hm O);have bn:=hid (aj.nodes bm O);have dp:=hid hn;refine T _ _ (Or.inr cg) ?_;clear T K hn hm O aj bm fj dq cf
     (try simp only[nr])
     generalize zBH s.dom OG.2.err OG.1 g=AG at*;refine wS1 8 (λK T=> ?_);(go_wp2_with fail);refine(av.sm.union bn dp).mono ?_;rintro e x3 ⟨RA,bz,rfl,hn,hm,O⟩;have bc:=cg.trans O;have bh:=hid (av.call hm O);have du:=hid hn;refine T _ _ (Or.inr bc) ?_;clear T K hn hm O av bn dp cg
     (try simp only[nr])
     have ap:=hid (ce.keep bc ⟨by omega,by omega⟩);have f0:=hid bc;clear bc;have z0:=ap.at0;have zf:=ap.frozen 0;have zl:=ap.lt;refine wS1 9 (λK T=> ?_);(go_wp2_with fail);refine T _ _ (Or.inl rfl) ?_;clear T K;(try simp only[nq]);refine wSd ?_ _;(go_wp2_with fail);have dd:=hid (bh.setC du);have f3:=hid ((jf.trans (f0.mono λb _ d=>⟨d.1,d.2.1⟩)).setCell (p:=⟨C,0,none⟩) (λ_ hz=>hz.2.2.2.2 rfl) (.slice RA (zAt s.dom AG.2 r.1 AG.1).1.length bz));clear bh du;go_roundw;(case rel=>exact⟨j+1,by omega,by go_num,by rw[cd.out,cw.out];exact dd.out,f3⟩);case measure=>simp[intOf];omega
    (obtain rfl:j=L3.length:=by omega);have ax:=hid Q.out;have f4:=hid D;rw[List.take_length]at ax;generalize L3.foldl (zCW s.dom l q.own) (zJ s.dom,q.st)=r at*;obtain⟨FA,R,ic,ie⟩:=ax.fb;obtain⟨QA,ab,aa,ag⟩:=ax.cb;have cd:=hid ic;have i7:=hid ie;have ce:=hid aa;have ah:=hid ag;have i4:=hid (i8.keep D g8);have i5:=hid (i9.keep D g9);clear Q D ic ie aa ag
    have HC:=hid (λ(W:World)(hW:zA (λb=>b≠w.heap.size+1+1+1) wr W)=>(show W.cell? ⟨F,0,none⟩=some (.slice FA q.forb.length R)/\F<W.heap.size/\W.cell? ⟨C,0,none⟩=some (.slice QA r.1.length ab)/\C<W.heap.size from by
     have h1:=cd.keep hW (by show F≠w.heap.size+1+1+1;omega);have h2:=ce.keep hW (by show C≠w.heap.size+1+1+1;omega)
     exact⟨h1.at0,h1.lt,h2.at0,h2.lt⟩))
    (go_wp2_with fail);refine zY 3 (λW=>zA (λb=>b≠w.heap.size+1+1+1) wr W) (by kernel_rfl) ?_;have ac:zA (λ_=>True) wr wr.drew:=(zA.refl _ _).drew;(have hS:(λW=>zA (λb=>b≠w.heap.size+1+1+1) wr W) wr.drew:=ac.mono λ_ _ _=>trivial);have U:=hid (ax.below (Below.refl _ _).drew);have g5:=hid (i7.keep (zA.refl _ _).drew);have az:=hid (ah.keep (zA.refl _ _).drew);have co:=hid (i4.keep ac trivial);have g4:=hid (i5.keep ac trivial);have je:=hid (f4.trans (ac.mono λ_ _ _=>trivial));generalize wr.drew=x0 at*
    (refine tkS 0 ?_ hS ?_ ?_;rotate_left;intro w n;obtain⟨a0,al,b0,bl⟩:=HC _ n;clear n;go_simp;(try with_reducible rfl);simp only[nr])
    try simp only[nq]
    (refine tkS 1 ?_ hS ?_ ?_;rotate_left;intro w n;obtain⟨a0,al,b0,bl⟩:=HC _ n;clear n;go_simp;(try with_reducible rfl);simp only[nr])
    (try simp only[nq]);clear hS;have z0:=co.at0;have zf:=co.frozen 0;have zl:=co.lt;refine wS1 2 (λK T=> ?_);(go_wp2_with fail);refine T _ _ (Or.inr ((ac.mono λ_ _ _=>trivial).setCell (λ_ h=>h rfl) _)) ?_;clear T K;(try simp only[nq]);have h7:=g4.far (p:=⟨w.heap.size+1+1+1,0,none⟩) (by show w.heap.size+1+1+1+1≠w.heap.size+1+1+1;omega) (.slice FA q.forb.length R);have y0:=h7.at0;have yf:=h7.frozen 0;have yl:=h7.lt;refine wS1 3 (λK T=> ?_);(go_wp2_with fail);refine T _ _ (Or.inl rfl) ?_;clear T K;(try simp only[nq]);refine wSd ?_ _;(go_wp2_with fail);have h6:=(co.set_ 0 (.slice FA q.forb.length R)).far (p:=⟨w.heap.size+1+1+1+1,0,none⟩) (by show w.heap.size+1+1+1≠w.heap.size+1+1+1+1;omega) (.slice QA r.1.length ab);have jp:=h7.set_ 0 (.slice QA r.1.length ab);have ea:zA (λb=>b≠w.heap.size+1+1+1/\b≠w.heap.size+1+1+1+1) x0 ((x0.setCell ⟨w.heap.size+1+1+1,0,none⟩ (.slice FA q.forb.length R)).setCell ⟨w.heap.size+1+1+1+1,0,none⟩ (.slice QA r.1.length ab)):=((zA.refl _ _).setCell (λ_ h=>h.1 rfl) _).setCell (λ_ h=>h.2 rfl) _;(have ed:∀b,¬EC E2 F C b->b≠w.heap.size+1+1+1/\b≠w.heap.size+1+1+1+1:=λb d=>⟨λe=>d (.inl (by rw[ef.out];exact .inl (.inr (.inl e)))),λe=>d (.inl (by rw[ef.out];exact .inl (.inr (.inr e))))⟩);(have gc:∀b,E b->EC E2 F C b:=λb d=> .inl (by rw[ef.out];exact .inl (.inl d)));have hO:=g1.out;subst hO;refine bodyPost_ret (zD1 rfl rfl rfl (zJQ (Tryz.aDia _) (Tryz.sDia _) h6.at0) (zJQ (Tryz.aDia _) (Tryz.sDia _) jp.at0)) rfl ?_;refine⟨FA,R,QA,ab,rfl,(g5.keep (ea.mono λb _ d=>ed b d)).mono λb d he=>d (gc b he),(az.keep (ea.mono λb _ d=>ed b d)).mono λb d he=>d (gc b he),(U.sm.gen (ea.mono λb _ d=> ?_)).less gc eg.1 eg.2,?_⟩
    ·rcases d with d|d|d
     ·exact ed b d
     ·omega
     omega
    have h1:zA (λb=>b≠B/\b≠M) w w4:= .of_below (fw.trans (gw.mono fw.size));refine(((h1.mono (Z':=λb=>(b≠B/\b≠M)/\b<w.heap.size) λb _ d=>d.1).trans (je.mono λb _ d=>⟨d.1.1,d.1.2,by omega,by omega,by omega⟩)).trans (ea.mono λb _ d=>⟨by omega,by omega⟩)).mono λb ex d=>⟨d,ex⟩
end Go.Proofs.YtommaegelgilnaaGreatDoor
