/- Texts TW. -/
import Derived.Test.YthpocbeoanipbaaGreatDoorM21
set_option linter.all false
namespace Go.Proofs.YthpocbeoanipbaaGreatDoor
open Go.RowKit
variable{A:Option Addr}{P:Program}{Q:Exit->Act->World->Prop}{Z Zn:zE}{a:Act}{base c cap d m n:Nat}{csl:List (List Value)}{e:TypeId}{l:List zI}{news xs:List Value}{o:Oper}{v:Value}{w:World}
section
open Go.Shelf
theorem zm.take_{α:Type}{R:List Value->α->Prop}{a:Nat}{Z:zE}{w:World}:∀{l:List α}{A:Option Addr}(d:Nat),zm R a Z w l A->zm R a Z w (l.take d) A
 |[],_,d,_=>by rw[List.take_nil];trivial
 | _::_,_,0,_=>trivial
 | _::_,_,d+1,⟨b,off,cs,e,h1,hc,h2,h3⟩=>⟨b,off,cs,e,h1,hc,h2,zm.take_ d h3⟩
theorem zm.drop_{α:Type}{R:List Value->α->Prop}{a:Nat}{Z:zE}{w:World}{b:Nat}:∀{l:List α}{off:Nat}(d:Nat),zm R a Z w l (some ⟨b,off,none⟩)->zm R a Z w (l.drop d) (some ⟨b,off+d*a,none⟩)
 |[],_,d,_=>by rw[List.drop_nil];trivial
 | _::_,off,0,h=>by simpa using h
 | _::_,off,d+1,⟨b',off',cs,e,h1,hc,h2,h3⟩=>by
  injection e with e;injection e with e1 e2;subst e1 e2;have:=zm.drop_ d h3;rwa[show off+a+d*a=off+(d+1)*a by rw[Nat.succ_mul];omega]at this
theorem Tryz.eLine:zB0 Tryz.prog 42 7 88:=zBp (z:= .agg #[.int .i64 0,.string ⟨#[]⟩,.int .i64 0,.int .i64 0,.slice none 0 0,.string ⟨#[]⟩,.bool false]) (by kernel_rfl) rfl (by decide)
theorem zA4.size{cs:List Value}{x:zI}(h:zA4 Z w cs x):cs.length=7:=by
 obtain⟨A,cap,rfl,-⟩:=h.form;rfl
theorem zGM(h:zBS Z w (.slice A n cap) l):∃csl,zc (zA4 Z w) 7 l csl/\Row Z w A csl.flatten:=by
 obtain⟨⟨o,d,e,-,-,-,g⟩⟩:=h;injection e with e1 e2 e3;subst e1;obtain⟨csl,f,j⟩:=zc.of_seq (k:=7) (λi x h=>zA4.size h) g;refine⟨csl,f,λc=> ?_⟩
 cases l with
 |nil=>
  cases csl with
  |nil=>exact absurd rfl c
  |cons _ _=>exact f.elim
 |cons p r=>
  obtain⟨b,a,i,rfl,m,-⟩:=g;exact⟨b,a,rfl,m,j b a rfl⟩
theorem zNs{t:TypeId}(h:w.ownsRow base t 7 v l.length csl.flatten)(he:zc (zA4 Z w) 7 l csl)(i:l.length*64<=140737488355328)(j:∀b,v.ownBlock=some b->Z b):
  zBS Z w v l:=by
 obtain⟨A,cap,rfl,c,d,f⟩:=Row.of_own h (by decide);refine⟨⟨A,cap,rfl,c,by simpa[maxLen]using d,i,?_⟩⟩
 cases l with
 |nil=>unfold zm;trivial
 |cons p r=>
  have a:csl.flatten≠[]:=by
   intro e;have:=he.size;rw[e]at this;simp at this
  obtain⟨b,k,rfl,m,g⟩:=f a;exact zc.rows (j b rfl) he g
theorem zDA{Z:zE}{w:World}:∀{ls:List zI}{csl:List (List Value)},zc (zA4 Z w) 7 ls csl->∀u∈csl.flatten,u.oneCell'=true
 |[],[],_,_,h=>by simp at h
 |p::ps,c::cs,h,u,a=>by
  rw[List.flatten_cons,List.mem_append]at a;rcases a with a|a
  ·obtain⟨d,b,rfl,-⟩:=h.1.1.form;simp only[List.mem_cons,List.not_mem_nil,or_false]at a;rcases a with rfl|rfl|rfl|rfl|rfl|rfl|rfl<;>rfl
  ·exact zDA h.2 u a
 |[],_::_,h,_,_=>h.elim
 | _::_,[],h,_,_=>h.elim
theorem zBS.take_(h:zBS Z w (.slice A l.length cap) l)(k:d<=l.length):zBS Z w (.slice A d cap) (l.take d):=by
 obtain⟨⟨g,a,e,i,b,j,f⟩⟩:=h;injection e with e1 e2 e3;subst e1 e3;have c:(l.take d).length =d:=by rw[List.length_take];omega
 exact⟨⟨A,cap,by rw[c],by omega,b,by omega,f.take_ d⟩⟩
theorem zBS.drop_{b off:Nat}(h:zBS Z w (.slice (some ⟨b,off,none⟩) l.length cap) l)(m:d<=l.length):zBS Z w (.slice (if cap=d then some ⟨b,off,none⟩else some ⟨b,off+d*7,none⟩) (l.length-d) (cap-d)) (l.drop d):=by
 obtain⟨⟨g,a,e,i,j,k,f⟩⟩:=h;injection e with e1 e2 e3;subst e1 e3;refine⟨⟨_,_,by rw[List.length_drop],by rw[List.length_drop];omega,by omega,by rw[List.length_drop];omega,?_⟩⟩;by_cases c:cap=d
 ·rw[List.drop_eq_nil_of_le (by omega)];trivial
 ·rw[if_neg c];exact f.drop_ d
theorem zBS.at_(h:zBS Z w (.slice A n cap) l){k:Nat}(g:k<l.length):∃b off cs,A=some ⟨b,off,none⟩/\Z b/\b<w.heap.size/\(∀j u,cs[j]? =some u->w.cell? ⟨b,off+k*7+j,none⟩=some u)/\zA4 Z w cs l[k]:=by
 obtain⟨⟨o,a,e,-,-,-,i⟩⟩:=h;injection e with e1 c e3;subst e1;obtain⟨b,off,cs,e,m,d,f⟩:=i.at_ g;obtain⟨q,c2,c,-⟩:=f.form;exact⟨b,off,cs,e,m,lt_of_cell (d 0 _ (by rw[c];rfl)),d,f⟩
theorem zHS{g base n a:Nat}{cells:Array Value}(h:Blk w g e cells)(c:base<=g)(d:n<=maxLen)(b:cells.size=n*a):w.ownsRow base e a (.slice (some ⟨g,0,none⟩) n n) n cells.toList:=
 ⟨by simpa using b,Or.inr ⟨g,n,cells,rfl,c,h,Nat.le_refl _,d,b,List.take_of_length_le (by rw[Array.length_toList,b];exact Nat.le_refl _)⟩⟩
theorem zGN{w f x:World}{c n a:Nat}{m k:Value}{xs ys:List zI}{csl dsl:List (List Value)}(s:Bw w f)(t:Bw f x)(i:Blk f c 27 #[m,k])(j:w.heap.size<=c)
  (v:zc (zA4 (λb=>b<w.heap.size) w) 7 xs csl)(hF:zc (zA4 (λb=>b<w.heap.size) w) 7 ys dsl)(q:x.ownsRow f.heap.size 42 7 (.slice A n a) n (csl.flatten++dsl.flatten))(z:n=xs.length+ys.length)(B:n<=1000):
  Blk (x.setCell ⟨c,1,none⟩ (.slice A n a)) c 27 #[m,.slice A n a]/\zBS (λb=>b<(x.setCell ⟨c,1,none⟩ (.slice A n a)).heap.size) (x.setCell ⟨c,1,none⟩ (.slice A n a)) (.slice A n a) (xs++ys)/\Bw w (x.setCell ⟨c,1,none⟩ (.slice A n a)):=by
 have d:Bw w x:=s.trans (t.mono s.size);have C:=i.lt;have o:∀g p,zA4 (λb=>b<w.heap.size) w g p->zA4 (λb=>b<w.heap.size\/(f.heap.size<=b/\b<x.heap.size)) x g p:=λg p h=>(h.keep (zA.of_below d)).mono λb h=> .inl h
 subst z
 have u:zBS (λb=>b<w.heap.size\/(f.heap.size<=b/\b<x.heap.size)) x (.slice A (xs.length+ys.length) a) (xs++ys):=
  zNs (l:=xs++ys) (csl:=csl++dsl) (by simpa using q) ((v.imp o).append (hF.imp o)) (by rw[List.length_append];omega) (λb y=> .inr (q.lt b y))
 refine⟨(i.below t i.lt).set_ 1 _,(u.keep ((zA.refl _ _).setCell (p:=⟨c,1,none⟩) (λ_(h:c<w.heap.size\/(f.heap.size<=c/\c<x.heap.size))=>by omega) _)).mono λb h=> ?_,d.setCell (p:=⟨c,1,none⟩) j _⟩;have e:(x.setCell ⟨c,1,none⟩ (.slice A (xs.length+ys.length) a)).heap.size =x.heap.size:=by simp
 rw[e];have:=d.size;omega
theorem zD0{K:Act->World->Prop}
  (s x:Operand)(t:TypeId)(E:o.op= .call {callee:= .builtin .append,args:=#[s,x],argTypes:=#[t,t]})
  {b d:Nat}(H:P.underlying t=some (.slice e))(El:zB0 P e b d)(G:a.eval s=v)(g:w.ownsRow base e b v n xs)
  (I:a.eval x= .slice A m c)(D:news.length=m*b)(F:Row Zn w A news)(k:∀u∈news,u.oneCell'=true)(j:n+m<=maxLen)(C:(n+m)*d<=140737488355328)(f:base<=w.heap.size)
  (B:∀i w',w'.ownsRow base e b i (n+m) (xs++news)->w.grownBy w' v.ownBlock->(i.ownBlock=v.ownBlock\/i.ownBlock=some w.heap.size)->K (a.put o.dst i) w'):
  Oper.wp P o a w K Q:=by
 obtain⟨i,w',h,q,y,z⟩:=zQU (ty:=o.type) H El g D F k j C f;unfold Oper.wp execOp;simp only[E,resolve,invoke,builtin,Sem.run_bind,Sem.run_pure,Result.andThen_ok,List.map_toArray,List.map_cons,List.map_nil,G,I];rw[h];exact B _ _ q y z
theorem zIP{ops:Array Oper}{rest:List Oper}(k:o.guard=none)
  (s x:Operand)(t:TypeId)(F:o.op= .call {callee:= .builtin .append,args:=#[s,x],argTypes:=#[t,t]})
  {b d:Nat}(I:P.underlying t=some (.slice e))(El:zB0 P e b d)(H:a.eval s=v)(i:w.ownsRow base e b v n xs)
  (J:a.eval x= .slice A m c)(E:news.length=m*b)(G:Row Zn w A news)(B:∀u∈news,u.oneCell'=true)(j:n+m<=maxLen)(D:(n+m)*d<=140737488355328)(f:base<=w.heap.size)
  (h:∀g w',w'.ownsRow base e b g (n+m) (xs++news)->w.grownBy w' v.ownBlock->(g.ownBlock=v.ownBlock\/g.ownBlock=some w.heap.size)->wpList P ops Q rest (a.put o.dst g) w'):wpList P ops Q (o::rest) a w:=
 wpList_plain k λ_ C=>zD0 s x t F I El H i J E G B j D f λg w' q y z=>C _ _ (h g w' q y z)
end
end Go.Proofs.YthpocbeoanipbaaGreatDoor
