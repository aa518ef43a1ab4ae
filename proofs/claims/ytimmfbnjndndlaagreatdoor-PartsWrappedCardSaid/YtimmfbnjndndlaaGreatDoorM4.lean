/- Texts L L2. -/
import Derived.Test.YtimmfbnjndndlaaGreatDoorM3
import Derived.Maps.AppendAt
import Derived.Deep.RegionLaw
import Derived.Deep.RegionLawGrows
set_option linter.all false
namespace Go.Proofs.YtimmfbnjndndlaaGreatDoor
open Go.RowKit
section
variable {P:Program} {ops:Array Oper} {rest:List Oper} {o:Oper} {a:Act} {w:World} {Q:Exit->Act->World->Prop}
structure ElemIs (P:Program) (e:TypeId) (size bytes:Nat):Prop where
 pos:0<size
 is:∃i z,P.info? e=some i∧i.zero=some z∧i.size=size∧i.bytes=bytes∧z.cells.size=size
theorem elemIs_of{P:Program}{e:TypeId}{z:Value}{size bytes:Nat}(h:(P.info? e).map (λi=>(i.zero,i.size,i.bytes))=some (some z,size,bytes))(hz:z.cells.size=size)(hp:0<size):ElemIs P e size bytes:=by
 cases hi:P.info? e with
 |none=>rw[hi]at h;cases h
 |some i=>
  rw[hi]at h;simp only[Option.map_some,Option.some.injEq,Prod.mk.injEq]at h;exact⟨hp,i,z,hi,h.1,h.2.1,h.2.2,hz⟩
theorem run_append1{base:Nat}{t ty e:TypeId}{size bytes:Nat}(ht:P.underlying t=some (.slice e))(E:ElemIs P e size bytes){v:Value}{n:Nat}{xs:List Value}(hown:w.ownsRow base e size v n xs)
  {g m c:Nat}{off:Nat}{news:List Value}(hn:news.length=m*size)(hc:∀j u,news[j]? =some u->w.cell? ⟨g,off+j,none⟩=some u)(h1:∀u∈news,u.oneCell'=true)(h63:n+m≤maxLen)(hb:(n+m)*bytes≤140737488355328)(hbase:base≤w.heap.size):
  ∃v' w',(Builtin.append_ #[t,t] ty #[v,.slice (some ⟨g,off,none⟩) m c]).run P w= .ok v' w'∧w'.ownsRow base e size v' (n+m) (xs++news)∧w.grownBy w' v.ownBlock∧(v'.ownBlock=v.ownBlock∨v'.ownBlock=some w.heap.size):=by
 obtain⟨hp,i,z,hi,hz,hsz,hby,hzs⟩:=E
 obtain⟨v',w',hrun,h2,h3,_,h5⟩:=run_append_own_at (P:=P) w base t ty e i z size bytes ht hi hz hsz hby hzs hp v n xs hown ⟨g,off,none⟩ m c news hn
  (λj u hu=>by rw[show(⟨g,off,none⟩:Addr).add j=⟨g,off+j,none⟩ from by unfold Addr.add;split<;>simp_all];exact hc j u hu) h1 h63 hb hbase
 exact⟨v',w',hrun,h2,h3,h5⟩
theorem wpList_append1(hgd:o.guard=none)(s x:Operand)(t:TypeId)(ho:o.op= .call {callee:= .builtin .append,args:=#[s,x],argTypes:=#[t,t]})
  {base:Nat}{e:TypeId}{size bytes:Nat}(ht:P.underlying t=some (.slice e))(E:ElemIs P e size bytes){v:Value}{n:Nat}{xs:List Value}(hs:a.eval s=v)(hown:w.ownsRow base e size v n xs)
  {g m c off:Nat}(hx:a.eval x= .slice (some ⟨g,off,none⟩) m c){news:List Value}(hn:news.length=m*size)(hc:∀j u,news[j]? =some u->w.cell? ⟨g,off+j,none⟩=some u)(h1:∀u∈news,u.oneCell'=true)(h63:n+m≤maxLen)(hb:(n+m)*bytes≤140737488355328)(hbase:base≤w.heap.size)
  (h:∀v' w',w'.ownsRow base e size v' (n+m) (xs++news)->w.grownBy w' v.ownBlock->(v'.ownBlock=v.ownBlock∨v'.ownBlock=some w.heap.size)->wpList P ops Q rest (a.put o.dst v') w'):wpList P ops Q (o::rest) a w:=
 wpList_plain hgd λK hK=>by
  obtain⟨v',w',hrun,h2,h3,h4⟩:=run_append1 (ty:=o.type) ht E hown hn hc h1 h63 hb hbase;unfold Oper.wp execOp;simp only[ho,resolve,invoke,builtin,Sem.run_bind,Sem.run_pure,Result.andThen_ok,List.map_toArray,List.map_cons,List.map_nil,hs,hx];rw[hrun];exact hK _ _ (h v' w' h2 h3 h4)
end
theorem below_own{B:Nat}{a w w':World}{v:Value}{base:Nat}{e:TypeId}{size n:Nat}{xs:List Value}(h:Below B a w)(hown:w.ownsRow base e size v n xs)(hg:w.grownBy w' v.ownBlock)(hB:B≤w.heap.size)(hb:B≤base):Below B a w':=
 h.grown hg hB (λk hk=>Nat.le_trans hb (hown.lt k hk).1)
theorem one_cell{w:World}{g:Nat}{u:Value}(h:w.cell? ⟨g,0,none⟩=some u):∀j x,[u][j]? =some x->w.cell? ⟨g,0+j,none⟩=some x:=λj x hx=>by
 cases j with
 |zero=>simp at hx;subst hx;simpa using h
 |succ j=>simp at hx
theorem step_append1{P:Program}{ops:Array Oper}{o:Oper}{a:Act}{w:World}{K:Act->World->Prop}{Q:Exit->Act->World->Prop}{E:Prop}
  (hgd:o.guard=none)(s x:Operand)(t:TypeId)(ho:o.op= .call {callee:= .builtin .append,args:=#[s,x],argTypes:=#[t,t]})
  {base:Nat}{e:TypeId}{size bytes:Nat}(ht:P.underlying t=some (.slice e))(El:ElemIs P e size bytes){v:Value}{n:Nat}{xs:List Value}(hs:a.eval s=v)(hown:w.ownsRow base e size v n xs)
  {g m c off:Nat}(hx:a.eval x= .slice (some ⟨g,off,none⟩) m c){news:List Value}(hn:news.length=m*size)(hc:∀j u,news[j]? =some u->w.cell? ⟨g,off+j,none⟩=some u)(h1:∀u∈news,u.oneCell'=true)(h63:n+m≤maxLen)(hb:(n+m)*bytes≤140737488355328)(hbase:base≤w.heap.size)
  (hK:∀v' w',w'.ownsRow base e size v' (n+m) (xs++news)->w.grownBy w' v.ownBlock->(v'.ownBlock=v.ownBlock∨v'.ownBlock=some w.heap.size)->K (a.put o.dst v') w'):
  if Region.wanted o (yielded ops a.tmps)=true then Oper.wp P o a w K Q else E:=by
 have hw:Region.wanted o (yielded ops a.tmps)=true:=by simp[Region.wanted,hgd]
 rw[if_pos hw];obtain⟨v',w',hrun,h2,h3,h4⟩:=run_append1 (ty:=o.type) ht El hown hn hc h1 h63 hb hbase;unfold Oper.wp execOp;simp only[ho,resolve,invoke,builtin,Sem.run_bind,Sem.run_pure,Result.andThen_ok,List.map_toArray,List.map_cons,List.map_nil,hs,hx];rw[hrun];exact hK _ _ h2 h3 h4
theorem oper_append1{P:Program}{o:Oper}{a:Act}{w:World}{K:Act->World->Prop}{Q:Exit->Act->World->Prop}
  (s x:Operand)(t:TypeId)(ho:o.op= .call {callee:= .builtin .append,args:=#[s,x],argTypes:=#[t,t]})
  {base:Nat}{e:TypeId}{size bytes:Nat}(ht:P.underlying t=some (.slice e))(El:ElemIs P e size bytes){v:Value}{n:Nat}{xs:List Value}(hs:a.eval s=v)(hown:w.ownsRow base e size v n xs)
  {g m c off:Nat}(hx:a.eval x= .slice (some ⟨g,off,none⟩) m c){news:List Value}(hn:news.length=m*size)(hc:∀j u,news[j]? =some u->w.cell? ⟨g,off+j,none⟩=some u)(h1:∀u∈news,u.oneCell'=true)(h63:n+m≤maxLen)(hb:(n+m)*bytes≤140737488355328)(hbase:base≤w.heap.size)
  (hK:∀v' w',w'.ownsRow base e size v' (n+m) (xs++news)->w.grownBy w' v.ownBlock->(v'.ownBlock=v.ownBlock∨v'.ownBlock=some w.heap.size)->K (a.put o.dst v') w'):
  Oper.wp P o a w K Q:=by
 obtain⟨v',w',hrun,h2,h3,h4⟩:=run_append1 (ty:=o.type) ht El hown hn hc h1 h63 hb hbase;unfold Oper.wp execOp;simp only[ho,resolve,invoke,builtin,Sem.run_bind,Sem.run_pure,Result.andThen_ok,List.map_toArray,List.map_cons,List.map_nil,hs,hx];rw[hrun];exact hK _ _ h2 h3 h4
theorem oper_append_full{P:Program}{o:Oper}{a:Act}{w:World}{K:Act->World->Prop}{Q:Exit->Act->World->Prop}
  (s x:Operand)(t:TypeId)(ho:o.op= .call {callee:= .builtin .append,args:=#[s,x],argTypes:=#[t,t]})
  {e:TypeId}{size bytes:Nat}(ht:P.underlying t=some (.slice e))(El:ElemIs P e size bytes){sb soff n cap:Nat}{olds:List Value}(hs:a.eval s= .slice (some ⟨sb,soff,none⟩) n cap)
  (hlo:olds.length=n*size)(holds:∀j u,olds[j]? =some u->w.cell? ⟨sb,soff+j,none⟩=some u)
  {g m c off:Nat}(hx:a.eval x= .slice (some ⟨g,off,none⟩) m c){news:List Value}(hn:news.length=m*size)(hc:∀j u,news[j]? =some u->w.cell? ⟨g,off+j,none⟩=some u)(hfull:cap<n+m)(h63:n+m≤maxLen)(hb:(n+m)*bytes≤140737488355328)
  (hK:∀v' w',w'.ownsRow w.heap.size e size v' (n+m) (olds++news)->w.grownBy w' none->K (a.put o.dst v') w'):
  Oper.wp P o a w K Q:=by
 obtain⟨hp,i,z,hi,hz,hsz,hby,hzs⟩:=El;have hadd:∀(B F j:Nat),(⟨B,F,none⟩:Addr).add j=⟨B,F+j,none⟩:=λB F j=>by unfold Addr.add;split<;>simp_all
 obtain⟨v',w',hrun,h2,h3⟩:=run_append_arg_grows (P:=P) w t o.type e i z size bytes ht hi hz hsz hby hzs hp ⟨sb,soff,none⟩ n cap olds hlo (λj u hu=>by rw[hadd];exact holds j u hu) ⟨g,off,none⟩ m c news hn (λj u hu=>by rw[hadd];exact hc j u hu) hfull h63 hb;unfold Oper.wp execOp;simp only[ho,resolve,invoke,builtin,Sem.run_bind,Sem.run_pure,Result.andThen_ok,List.map_toArray,List.map_cons,List.map_nil,hs,hx];rw[hrun];exact hK _ _ h2 h3
end Go.Proofs.YtimmfbnjndndlaaGreatDoor
