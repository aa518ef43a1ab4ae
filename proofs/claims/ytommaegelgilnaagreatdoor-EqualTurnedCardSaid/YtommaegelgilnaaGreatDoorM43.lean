/- Lemmas. -/
import Derived.Test.YtommaegelgilnaaGreatDoorM42
import Derived.Test.YtommaegelgilnaaGreatDoorM20
import Derived.Deep.CutBlock
set_option linter.all false
namespace Go.Proofs.YtommaegelgilnaaGreatDoor
open Go.RowKit Go.Proofs.Tryz
set_option maxHeartbeats 16000000
set_option maxRecDepth 100000
variable {B3 B4 B5 P n:Nat}{W w:World}{Z:zD}{a:Act}{er:Int}{v y z:Value}
section
open Go.Shelf
theorem zLt{P:Program}{ops:Array Oper}{rest:List Oper}{o:Oper}{Q:Exit->Act->World->Prop}(q:o.guard=none)
  (s x:Operand)(t:TypeId)(G:o.op= .call {callee:= .builtin .append,args:=#[s,x],argTypes:=#[t,t]})
  {base:Nat}{e:TypeId}{b d:Nat}(J:P.underlying t=some (.slice e))(El:zC2 P e b d){xs:List Value}(I:a.eval s=v)(g:w.ownsRow base e b v n xs)
  {A:Option Addr}{m c:Nat}(L:a.eval x= .slice A m c){Zn:zD}{news:List Value}(F:news.length=m*b)(H:Row Zn w A news)(y:∀u∈news,u.oneCell'=true)(k:n+m<=maxLen)(E:(n+m)*d<=140737488355328)(f:base<=w.heap.size)
  (h:∀j w',w'.ownsRow base e b j (n+m) (xs++news)->w.grownBy w' v.ownBlock->(j.ownBlock=v.ownBlock\/j.ownBlock=some w.heap.size)->wpList P ops Q rest (a.put o.dst j) w'):wpList P ops Q (o::rest) a w:=by
 refine wpList_plain q λK D=> ?_
 obtain⟨j,w',i,z,B,C⟩:=zOZ (ty:=o.type) J El g F H y k E f;unfold Oper.wp execOp;simp only[G,resolve,invoke,builtin,Sem.run_bind,Sem.run_pure,Result.andThen_ok,List.map_toArray,List.map_cons,List.map_nil,I,L];rw[i];exact D _ _ (h _ _ z B C)
def zKX(x:zHQ)(vc p q r t:Value):Value:= .agg #[.int .i64 x.signed,.int .i64 x.now,vc,.int .i64 x.a.kind,p,q,.int .i64 x.b.kind,r,t]
def zLu(w:World)(x:zHQ × Bool × Int)(e:Ending)(w':World):Prop:=
 ∃vc p q r t,e= .returned (.tuple #[zKX x.1 vc p q r t,.bool x.2.1,.int .i64 x.2.2])/\zO (λb=>w.heap.size<=b) w' vc x.1.cas/\
  zFJ (λb=>w.heap.size<=b) w' (.agg #[.int .i64 x.1.a.kind,p,q]) x.1.a/\zFJ (λb=>w.heap.size<=b) w' (.agg #[.int .i64 x.1.b.kind,r,t]) x.1.b/\Bw w w'
theorem Names.live{l:List ByteArray}(h:Names Z w v l):Names (λb=>Z b/\b<w.heap.size) w v l:=by
 obtain⟨⟨A,a,e,d,f,c,i⟩,g⟩:=h;exact⟨⟨A,a,e,d,f,c,i.live⟩,g⟩
theorem zON(x:Int):∀l:List Int,(zDA l x).length <=l.length+1
 |[]=>by simp[zDA]
 |y::r=>by
  unfold zDA;split
  ·simp
  split
  ·simp
  have:=zON x r;simp only[List.length_cons];omega
theorem zJv(z:zp):∀(ds l:List Int),(ds.foldl (zBI z) l).length <=l.length+ds.length
 |[],l=>by simp
 |d::r,l=>by
  have a:=zJv z r (zBI z l d)
  have b:(zBI z l d).length <=l.length+1:=by
   unfold zBI;split
   ·exact zON _ _
   omega
  rw[List.foldl_cons,List.length_cons];omega
theorem zGC(auths:List ByteArray)(zs:List zp):∀(l:List zF)(m:List Int),(zBS auths zs l m).1.length <=m.length+3*l.length
 |[],m=>by simp[zBS]
 |x::r,m=>by
  unfold zBS;have a:=zGC auths zs r m;have b:=zGC auths zs r ((zDa x).foldl (zBI (zA5 zs (placeOf auths x.auth))) m);have c:=zJv (zA5 zs (placeOf auths x.auth)) (zDa x) m;have d:(zDa x).length <=3:=by unfold zDa;split<;>simp
  split
  ·split
   ·simp
   simp only[List.length_cons];omega
  simp only[List.length_cons];omega
theorem zPF(l:List zF)(auths:List ByteArray)(zs:List zp):(zBd l auths zs).1.length <=601:=by
 unfold zBd;split
 ·simp
 rename_i h;have:=zGC auths zs l [0];split
 ·simp
 split
 ·simp
 simp only[List.length_singleton]at this;omega
def zOO(p q:Bool)(Q:Prop):Prop:=p=true->q=true->Q
structure zC1 (w x:World) (cl:Value->Array Value) (p q r:Bool) (v u t:Value):Prop where
 m:p=true->∃M,v= .map (some M)/\w.heap.size<=M/\zS encI x M []
 d:q=true->p=true/\u= .agg (cl v)
 b:r=true->q=true/\∃B,t= .pointer (some ⟨B,0,none⟩)/\w.heap.size<=B/\Blk x B 71 (cl v)
structure zDB (w x:World) (p f:Bool) (v t:Value):Prop where
 b:p=true->∃P,v= .pointer (some ⟨P,0,none⟩)/\w.heap.size<=P/\Blk x P 68 #[if f=true then t else .pointer none]
 f:f=true->p=true
section
variable {w x:World} {cl:Value->Array Value} {p q r f:Bool} {v u t:Value}
theorem zC1.alloc(h:zC1 w x cl p q r v u t)(o:Obj):zC1 w (x.alloc o) cl p q r v u t:=
 ⟨λe=>by obtain⟨M,c,f,a⟩:=h.m e;exact⟨M,c,f,a.of_block (Below.heap_alloc _ o _ a.lt)⟩,h.d,λe=>by obtain⟨g,B,c,f,a⟩:=h.b e;exact⟨g,B,c,f,a.alloc o⟩⟩
theorem zDB.alloc(h:zDB w x p f v t)(o:Obj):zDB w (x.alloc o) p f v t:=
 ⟨λe=>by obtain⟨P,a,c,d⟩:=h.b e;exact⟨P,a,c,d.alloc o⟩,h.f⟩
theorem zC1.store(h:zC1 w x cl p q r v u t)(g:Blk x P 68 #[y]):zC1 w (x.setCell ⟨P,0,none⟩ z) cl p q r v u t:=
 ⟨λe=>by
  obtain⟨M,c,f,a⟩:=h.m e;refine⟨M,c,f,a.of_block (Below.heap_setCell x ⟨P,0,none⟩ z M λe=> ?_)⟩;obtain⟨k,j,c1,_⟩:=a;rw[e]at c1;have:=g.symm.trans c1;simp at this,h.d,λe=>by
  obtain⟨i,B,c,f,a⟩:=h.b e
  exact⟨i,B,c,f,a.far (p:=⟨P,0,none⟩) (a.ne_ g (by decide)) z⟩⟩
theorem zC1.setM(h:zC1 w x cl false q r v u t)(a:w.heap.size<=x.heap.size):zC1 w (x.alloc (.map #[] 0)) cl true q r (.map (some x.heap.size)) u t:=
 ⟨λ_=>⟨_,rfl,a,zS.made x encI⟩,λe=>absurd (h.d e).1 (by simp),λe=>absurd (h.d (h.b e).1).1 (by simp)⟩
theorem zC1.setD(h:zC1 w x cl true false r v u t):zC1 w x cl true true r v (.agg (cl v)) t:=⟨h.m,λ_=>⟨rfl,rfl⟩,λe=>absurd (h.b e).1 (by simp)⟩
theorem zC1.setB(h:zC1 w x cl p true false v u t)(a:w.heap.size<=x.heap.size):zC1 w (x.alloc (.cells (cl v) 71)) cl p true true v u (.pointer (some ⟨x.heap.size,0,none⟩)):=
 ⟨(h.alloc _).m,h.d,λ_=>⟨rfl,_,rfl,a,Blk.new _ _ _⟩⟩
theorem zDB.pick(h:zDB w x true false v t):∃P,v= .pointer (some ⟨P,0,none⟩)/\w.heap.size<=P/\Blk x P 68 #[.pointer none]:=h.b rfl
theorem zDB.anyT{a:Value}(h:zDB w x p false v t):zDB w x p false v a:=⟨h.b,h.f⟩
theorem zDB.setB(h:zDB w x false f v t)(a:w.heap.size<=x.heap.size):zDB w (x.alloc (.cells #[.pointer none] 68)) true f (.pointer (some ⟨x.heap.size,0,none⟩)) t:=by
 cases f with
 |false=>exact⟨λ_=>⟨_,rfl,a,Blk.new _ _ _⟩,λ_=>rfl⟩
 |true=>exact absurd (h.f rfl) (by simp)
theorem zDB.setF(a:Blk x P 68 #[y])(b:w.heap.size<=P):zDB w (x.setCell ⟨P,0,none⟩ t) true true (.pointer (some ⟨P,0,none⟩)) t:=⟨λ_=>⟨P,rfl,b,a.set_ 0 t⟩,λ_=>rfl⟩
theorem zDB.far(h:zDB w x p f v t)(c:p=true->v≠ .pointer (some ⟨P,0,none⟩)):zDB w (x.setCell ⟨P,0,none⟩ z) p f v t:=
 ⟨λe=>by
  obtain⟨d,g,i,j⟩:=h.b e;refine⟨d,g,i,j.far (p:=⟨P,0,none⟩) (λa=>c e ?_) z⟩;rw[g];have a:d=P:=a
  rw[a],h.f⟩
theorem zC1.newM(h:zC1 w x cl p q r v u t)(b:p=true):v≠ .map (some x.heap.size):=λe=>by
 obtain⟨M,rfl,_,a⟩:=h.m b;have:=a.lt;injection e with e;injection e with e;omega
theorem zC1.newB(h:zC1 w x cl p q r v u t)(c:r=true):t≠ .pointer (some ⟨x.heap.size,0,none⟩):=λe=>by
 obtain⟨_,B,rfl,_,a⟩:=h.b c;have:=a.lt;injection e with e;injection e with e;injection e with e;omega
theorem zDB.newB(h:zDB w x p f v t)(c:p=true):v≠ .pointer (some ⟨x.heap.size,0,none⟩):=λe=>by
 obtain⟨B,rfl,_,a⟩:=h.b c;have:=a.lt;injection e with e;injection e with e;injection e with e;omega
end
def zE1(a b:List zF)(k:Nat):List zF:=if k=0 then a else b
theorem zJw{tmps:Array Value}{cs:Array Value}{b:Bool}(e:tmps.getD 6 undef= .pointer (some ⟨B3,0,none⟩))(f:tmps.getD 7 undef= .pointer (some ⟨B4,0,none⟩))(g:tmps.getD 8 undef= .pointer (some ⟨B5,0,none⟩))
  (a:Blk w B3 38 cs)(h:cs.size=9)(c:Blk w B4 4 #[.bool b])(d:Blk w B5 39 #[.int .i64 er]):(results Tryz.f12 tmps).run prog w= .ok (.tuple #[.agg cs,.bool b,.int .i64 er]) w:=by
 have c4:=c.at0;have c5:=d.at0;refine zPg (p:=6) (q:=7) (r:=8) (t:=38) (u:=4) (s:=39) rfl e f g (run_loadVar_row w B3 38 38 cs (0,0) _ a underlying38 rfl (by rw[h];kernel_rfl)) ?_ ?_
 ·go_simp
 go_simp
theorem zKY{w w':World}{x:zHQ × Bool × Int}(k:x=(zCa,false,er))(i:a.defers=[])(e:a.tmps.getD 6 undef= .pointer (some ⟨B3,0,none⟩))(f:a.tmps.getD 7 undef= .pointer (some ⟨B4,0,none⟩))(g:a.tmps.getD 8 undef= .pointer (some ⟨B5,0,none⟩))
  (b:Blk w' B3 38 #[.int .i64 0,.int .i64 0,.slice none 0 0,.int .i64 0,.slice none 0 0,.slice none 0 0,.int .i64 0,.slice none 0 0,.slice none 0 0])(c:Blk w' B4 4 #[.bool false])(d:Blk w' B5 39 #[.int .i64 er])(h:Bw w w'):bodyPostM Fence.wide 6 prog Tryz.f12 (zLu w x) .ret a w':=by
 have j:=zJw e f g b rfl c d;subst k;show LeavesInM Fence.wide 6 _ _ a.tmps _ a.defers .returning w';rw[i];exact⟨_,j,_,_,_,_,_,rfl,zO.nil _ _,⟨_,_,rfl,Names.nil,Names.nil⟩,⟨_,_,rfl,Names.nil,Names.nil⟩,h⟩
theorem zFc{a b:List zF}{s:zM}{sg nw:Int}{r:List (Int × Int)}{X Y:zAH}{U V:List zB × List zB × zAH}(d:zBV a s sg nw X=U)(e:zBV b s sg nw Y=V):zBk a b s ((sg,nw)::r) X Y=
  if V.2.2.err≠0 then(zCa,false,2)else if(zGf s.dom U.2.2.err U.1 V.1 U.2.1 V.2.1).2≠0 then(zCa,false,2)else
  match zDS s.dom (zGf s.dom U.2.2.err U.1 V.1 U.2.1 V.2.1).1 with
  |none=>zBk a b s r ⟨(zGf s.dom U.2.2.err U.1 V.1 U.2.1 V.2.1).2,U.2.2.built⟩ V.2.2
  |some c=>(⟨sg,nw,c,(zP a (zAv s sg nw c)).1,(zP b (zAv s sg nw c)).1⟩,true,0):=by
 subst d e;rfl
theorem zOP{W a:World}(h:zA Z W a)(e:∀b,n<=b->Z b):KeepsFrom n W a:=
 ⟨h.size,λk o d c _=>(h.block k (Array.getElem?_eq_some_iff.1 c).1 (e k d)).trans c⟩
theorem zP1{D n:Nat}{x R:zHQ × Bool × Int}(A:x=R)(c:W.heap[D]? =some (.deferred (some [])))(s:n<=D)(y:w.heap.size<=n)(z:w.heap.size<=W.heap.size)(u:zOM w.heap.size w W R)(v:a.defers=[{target:= .collected D,args:=#[]}])
  (j:a.tmps.getD 6 undef= .pointer (some ⟨w.heap.size+1+1+1,0,none⟩))(k:a.tmps.getD 7 undef= .pointer (some ⟨w.heap.size+1+1+1+1,0,none⟩))(m:a.tmps.getD 8 undef= .pointer (some ⟨w.heap.size+1+1+1+1+1,0,none⟩)):bodyPostM Fence.wide 6 prog Tryz.f12 (zLu w x) .ret a W:=by
 subst A;obtain⟨B,p,q,r,t,d,f,g,h,i,o,b⟩:=u.kept (n:=n) (grownBy_putObj' W D (.deferred none)) (λr e=>by cases e;exact⟨s,_,c,rfl⟩) y z;show LeavesInM Fence.wide 6 _ _ a.tmps _ a.defers .returning W;rw[v];refine⟨by simp,.inl ⟨_,_,rfl,run_takeDeferred c,?_⟩⟩;exact⟨_,zJw j k m d rfl f g,B,p,q,r,t,rfl,h,i,o,b⟩
attribute [local go_sem] Oper.semAt_some
theorem zFO(Z:zD)(va vb vd mt vz vc:Value)(a b:List zF)(s:zM)(w:World)(ha:zn Z w va a)(E:zn Z w vb b)(h:zBq Z w vd mt vz vc s)(hz:∀b,Z b->b<w.heap.size)(mn:∀m∈a,zH m.when_<=1000000)(mo:∀m∈b,zH m.when_<=1000000)(i9:zBr w.heap.size w):
  Calls prog 12 #[va,vb,.agg #[vd,mt,vz,vc,.int .i64 s.signed,.int .i64 s.now]] w (zLu w (zAO a b s)):=by
 obtain⟨LA,G,rfl,od⟩:=zj.form ha;obtain⟨LB,H,rfl,oe⟩:=zj.form E;obtain⟨DA,J,rfl⟩:∃A2 ft,vd= .slice A2 s.dom.length ft:=by obtain⟨⟨A2,ft,e,_⟩,_⟩:=h.d;exact⟨A2,ft,e⟩
 obtain⟨NA,N,rfl,-,-,j9⟩:=h.a.form;obtain⟨ZA,O,rfl,o0⟩:=zj.form h.z;obtain⟨CA,T,rfl,l9⟩:=zj.form h.c;have ng:∀(fn:Fn)(first dg:Array Value)(w:World),(Instr.makeFunc fn first dg).run prog w= .ok (.func fn first dg) w:=λ_ _ _ _=>rfl
 have og:= @run_makeMap prog;have jc:=hid (show Bw w (((((((w.alloc (.cells #[.slice LA a.length G] 22)).alloc (.cells #[.slice LB b.length H] 22)).alloc (.cells #[.slice DA s.dom.length J,.slice NA s.auths.length N,.slice ZA s.zones.length O,.slice CA s.cases.length T,.int .i64 s.signed,.int .i64 s.now] 30)).alloc (.cells #[.int .i64 0,.int .i64 0,.slice none 0 0,.int .i64 0,.slice none 0 0,.slice none 0 0,.int .i64 0,.slice none 0 0,.slice none 0 0] 38)).alloc (.cells #[.bool false] 4)).alloc (.cells #[.int .i64 0] 39)).alloc (.cells #[.int .i64 0,.int .i64 0,.slice none 0 0,.int .i64 0,.slice none 0 0,.slice none 0 0,.int .i64 0,.slice none 0 0,.slice none 0 0] 38)) from((((((zG w _).alloc (by simp) _).alloc (by simp;omega) _).alloc (by simp;omega) _).alloc (by simp;omega) _).alloc (by simp;omega) _).alloc (by simp;omega) _);have bz:=hid (show Blk (((((((w.alloc (.cells #[.slice LA a.length G] 22)).alloc (.cells #[.slice LB b.length H] 22)).alloc (.cells #[.slice DA s.dom.length J,.slice NA s.auths.length N,.slice ZA s.zones.length O,.slice CA s.cases.length T,.int .i64 s.signed,.int .i64 s.now] 30)).alloc (.cells #[.int .i64 0,.int .i64 0,.slice none 0 0,.int .i64 0,.slice none 0 0,.slice none 0 0,.int .i64 0,.slice none 0 0,.slice none 0 0] 38)).alloc (.cells #[.bool false] 4)).alloc (.cells #[.int .i64 0] 39)).alloc (.cells #[.int .i64 0,.int .i64 0,.slice none 0 0,.int .i64 0,.slice none 0 0,.slice none 0 0,.int .i64 0,.slice none 0 0,.slice none 0 0] 38)) w.heap.size 22 #[.slice LA a.length G] from((((((Blk.newE w 22 #[.slice LA a.length G] (by simp)).alloc _).alloc _).alloc _).alloc _).alloc _).alloc _);have b1:=hid (show Blk (((((((w.alloc (.cells #[.slice LA a.length G] 22)).alloc (.cells #[.slice LB b.length H] 22)).alloc (.cells #[.slice DA s.dom.length J,.slice NA s.auths.length N,.slice ZA s.zones.length O,.slice CA s.cases.length T,.int .i64 s.signed,.int .i64 s.now] 30)).alloc (.cells #[.int .i64 0,.int .i64 0,.slice none 0 0,.int .i64 0,.slice none 0 0,.slice none 0 0,.int .i64 0,.slice none 0 0,.slice none 0 0] 38)).alloc (.cells #[.bool false] 4)).alloc (.cells #[.int .i64 0] 39)).alloc (.cells #[.int .i64 0,.int .i64 0,.slice none 0 0,.int .i64 0,.slice none 0 0,.slice none 0 0,.int .i64 0,.slice none 0 0,.slice none 0 0] 38)) (w.heap.size+1) 22 #[.slice LB b.length H] from(((((Blk.newE (w.alloc (.cells #[.slice LA a.length G] 22)) 22 #[.slice LB b.length H] (by simp)).alloc _).alloc _).alloc _).alloc _).alloc _);have bp:=hid (show Blk (((((((w.alloc (.cells #[.slice LA a.length G] 22)).alloc (.cells #[.slice LB b.length H] 22)).alloc (.cells #[.slice DA s.dom.length J,.slice NA s.auths.length N,.slice ZA s.zones.length O,.slice CA s.cases.length T,.int .i64 s.signed,.int .i64 s.now] 30)).alloc (.cells #[.int .i64 0,.int .i64 0,.slice none 0 0,.int .i64 0,.slice none 0 0,.slice none 0 0,.int .i64 0,.slice none 0 0,.slice none 0 0] 38)).alloc (.cells #[.bool false] 4)).alloc (.cells #[.int .i64 0] 39)).alloc (.cells #[.int .i64 0,.int .i64 0,.slice none 0 0,.int .i64 0,.slice none 0 0,.slice none 0 0,.int .i64 0,.slice none 0 0,.slice none 0 0] 38)) (w.heap.size+1+1) 30 #[.slice DA s.dom.length J,.slice NA s.auths.length N,.slice ZA s.zones.length O,.slice CA s.cases.length T,.int .i64 s.signed,.int .i64 s.now] from((((Blk.newE ((w.alloc (.cells #[.slice LA a.length G] 22)).alloc (.cells #[.slice LB b.length H] 22)) 30 #[.slice DA s.dom.length J,.slice NA s.auths.length N,.slice ZA s.zones.length O,.slice CA s.cases.length T,.int .i64 s.signed,.int .i64 s.now] (by simp)).alloc _).alloc _).alloc _).alloc _);have b5:=hid (show Blk (((((((w.alloc (.cells #[.slice LA a.length G] 22)).alloc (.cells #[.slice LB b.length H] 22)).alloc (.cells #[.slice DA s.dom.length J,.slice NA s.auths.length N,.slice ZA s.zones.length O,.slice CA s.cases.length T,.int .i64 s.signed,.int .i64 s.now] 30)).alloc (.cells #[.int .i64 0,.int .i64 0,.slice none 0 0,.int .i64 0,.slice none 0 0,.slice none 0 0,.int .i64 0,.slice none 0 0,.slice none 0 0] 38)).alloc (.cells #[.bool false] 4)).alloc (.cells #[.int .i64 0] 39)).alloc (.cells #[.int .i64 0,.int .i64 0,.slice none 0 0,.int .i64 0,.slice none 0 0,.slice none 0 0,.int .i64 0,.slice none 0 0,.slice none 0 0] 38)) (w.heap.size+1+1+1) 38 #[.int .i64 0,.int .i64 0,.slice none 0 0,.int .i64 0,.slice none 0 0,.slice none 0 0,.int .i64 0,.slice none 0 0,.slice none 0 0] from(((Blk.newE (((w.alloc (.cells #[.slice LA a.length G] 22)).alloc (.cells #[.slice LB b.length H] 22)).alloc (.cells #[.slice DA s.dom.length J,.slice NA s.auths.length N,.slice ZA s.zones.length O,.slice CA s.cases.length T,.int .i64 s.signed,.int .i64 s.now] 30)) 38 #[.int .i64 0,.int .i64 0,.slice none 0 0,.int .i64 0,.slice none 0 0,.slice none 0 0,.int .i64 0,.slice none 0 0,.slice none 0 0] (by simp)).alloc _).alloc _).alloc _);have b6:=hid (show Blk (((((((w.alloc (.cells #[.slice LA a.length G] 22)).alloc (.cells #[.slice LB b.length H] 22)).alloc (.cells #[.slice DA s.dom.length J,.slice NA s.auths.length N,.slice ZA s.zones.length O,.slice CA s.cases.length T,.int .i64 s.signed,.int .i64 s.now] 30)).alloc (.cells #[.int .i64 0,.int .i64 0,.slice none 0 0,.int .i64 0,.slice none 0 0,.slice none 0 0,.int .i64 0,.slice none 0 0,.slice none 0 0] 38)).alloc (.cells #[.bool false] 4)).alloc (.cells #[.int .i64 0] 39)).alloc (.cells #[.int .i64 0,.int .i64 0,.slice none 0 0,.int .i64 0,.slice none 0 0,.slice none 0 0,.int .i64 0,.slice none 0 0,.slice none 0 0] 38)) (w.heap.size+1+1+1+1) 4 #[.bool false] from((Blk.newE ((((w.alloc (.cells #[.slice LA a.length G] 22)).alloc (.cells #[.slice LB b.length H] 22)).alloc (.cells #[.slice DA s.dom.length J,.slice NA s.auths.length N,.slice ZA s.zones.length O,.slice CA s.cases.length T,.int .i64 s.signed,.int .i64 s.now] 30)).alloc (.cells #[.int .i64 0,.int .i64 0,.slice none 0 0,.int .i64 0,.slice none 0 0,.slice none 0 0,.int .i64 0,.slice none 0 0,.slice none 0 0] 38)) 4 #[.bool false] (by simp)).alloc _).alloc _)
 have ca:=hid (show Blk (((((((w.alloc (.cells #[.slice LA a.length G] 22)).alloc (.cells #[.slice LB b.length H] 22)).alloc (.cells #[.slice DA s.dom.length J,.slice NA s.auths.length N,.slice ZA s.zones.length O,.slice CA s.cases.length T,.int .i64 s.signed,.int .i64 s.now] 30)).alloc (.cells #[.int .i64 0,.int .i64 0,.slice none 0 0,.int .i64 0,.slice none 0 0,.slice none 0 0,.int .i64 0,.slice none 0 0,.slice none 0 0] 38)).alloc (.cells #[.bool false] 4)).alloc (.cells #[.int .i64 0] 39)).alloc (.cells #[.int .i64 0,.int .i64 0,.slice none 0 0,.int .i64 0,.slice none 0 0,.slice none 0 0,.int .i64 0,.slice none 0 0,.slice none 0 0] 38)) (w.heap.size+1+1+1+1+1) 39 #[.int .i64 0] from(Blk.newE (((((w.alloc (.cells #[.slice LA a.length G] 22)).alloc (.cells #[.slice LB b.length H] 22)).alloc (.cells #[.slice DA s.dom.length J,.slice NA s.auths.length N,.slice ZA s.zones.length O,.slice CA s.cases.length T,.int .i64 s.signed,.int .i64 s.now] 30)).alloc (.cells #[.int .i64 0,.int .i64 0,.slice none 0 0,.int .i64 0,.slice none 0 0,.slice none 0 0,.int .i64 0,.slice none 0 0,.slice none 0 0] 38)).alloc (.cells #[.bool false] 4)) 39 #[.int .i64 0] (by simp)).alloc _);have cb:=hid (show Blk (((((((w.alloc (.cells #[.slice LA a.length G] 22)).alloc (.cells #[.slice LB b.length H] 22)).alloc (.cells #[.slice DA s.dom.length J,.slice NA s.auths.length N,.slice ZA s.zones.length O,.slice CA s.cases.length T,.int .i64 s.signed,.int .i64 s.now] 30)).alloc (.cells #[.int .i64 0,.int .i64 0,.slice none 0 0,.int .i64 0,.slice none 0 0,.slice none 0 0,.int .i64 0,.slice none 0 0,.slice none 0 0] 38)).alloc (.cells #[.bool false] 4)).alloc (.cells #[.int .i64 0] 39)).alloc (.cells #[.int .i64 0,.int .i64 0,.slice none 0 0,.int .i64 0,.slice none 0 0,.slice none 0 0,.int .i64 0,.slice none 0 0,.slice none 0 0] 38)) (w.heap.size+1+1+1+1+1+1) 38 #[.int .i64 0,.int .i64 0,.slice none 0 0,.int .i64 0,.slice none 0 0,.slice none 0 0,.int .i64 0,.slice none 0 0,.slice none 0 0] from Blk.newE ((((((w.alloc (.cells #[.slice LA a.length G] 22)).alloc (.cells #[.slice LB b.length H] 22)).alloc (.cells #[.slice DA s.dom.length J,.slice NA s.auths.length N,.slice ZA s.zones.length O,.slice CA s.cases.length T,.int .i64 s.signed,.int .i64 s.now] 30)).alloc (.cells #[.int .i64 0,.int .i64 0,.slice none 0 0,.int .i64 0,.slice none 0 0,.slice none 0 0,.int .i64 0,.slice none 0 0,.slice none 0 0] 38)).alloc (.cells #[.bool false] 4)).alloc (.cells #[.int .i64 0] 39)) 38 #[.int .i64 0,.int .i64 0,.slice none 0 0,.int .i64 0,.slice none 0 0,.slice none 0 0,.int .i64 0,.slice none 0 0,.slice none 0 0] (by simp));have ol:(((((((w.alloc (.cells #[.slice LA a.length G] 22)).alloc (.cells #[.slice LB b.length H] 22)).alloc (.cells #[.slice DA s.dom.length J,.slice NA s.auths.length N,.slice ZA s.zones.length O,.slice CA s.cases.length T,.int .i64 s.signed,.int .i64 s.now] 30)).alloc (.cells #[.int .i64 0,.int .i64 0,.slice none 0 0,.int .i64 0,.slice none 0 0,.slice none 0 0,.int .i64 0,.slice none 0 0,.slice none 0 0] 38)).alloc (.cells #[.bool false] 4)).alloc (.cells #[.int .i64 0] 39)).alloc (.cells #[.int .i64 0,.int .i64 0,.slice none 0 0,.int .i64 0,.slice none 0 0,.slice none 0 0,.int .i64 0,.slice none 0 0,.slice none 0 0] 38)).heap.size =w.heap.size+7:=by simp
 have bo:=hid (show zAO a b s=if zCR s=false then(zCa,false,1)else if(zP a s).2≠0 then(zCa,false,(zP a s).2)else if(zP b s).2≠0 then(zCa,false,(zP b s).2)else if 40<(zDL a b s).length then(zCa,false,2)else zBk a b s (zx (zDL a b s)) ⟨0,[]⟩ ⟨0,[]⟩ from rfl);obtain⟨dy,i4⟩:∃c,zAO a b s=c:=⟨_,rfl⟩;rw[i4]at bo⊢;clear i4;refine(callsIn_wide (n:=6)).1 ?_;refine callsIn_of_wp_marks func12 rfl trivial ?_ rfl;simp only[ntmps12,List.size_toArray,List.length_cons,List.length_nil,Nat.reduceAdd,Nat.reduceSub,Array.replicate_succ,Array.replicate_zero,List.push_toArray,List.append_toArray,List.nil_append,List.cons_append];refine wpIn_wide.2 ?_;go_upto_region 1 with fail
 go_step3;go_upto_region 2 with fail
 generalize (((((((w.alloc _).alloc _).alloc _).alloc _).alloc _).alloc _).alloc _)=w7 at*;have HK:=hid (λW(hW:Bw w7 W)=>(show zA Z w W from .of_below_lt (jc.trans (hW.mono (by omega))) λb _ E=>hz b E));have ea:=hid (λW(hW:Bw w7 W) b(E:Z b)=>(show b<W.heap.size from by have:=hz b E;have:=hW.size;omega));have db:=hid (λW(hW:Bw w7 W)=>h.keep (HK W hW));have jh:=hid (λW(hW:Bw w7 W)=>zn.keep ha (HK W hW));have ji:=hid (λW(hW:Bw w7 W)=>zn.keep E (HK W hW));have dz:=hid (And.intro mn mo);have lj:=hid (λW(hW:Bw w W)=>h.keep (show zA Z w W from .of_below_lt hW λb _ E=>hz b E));have k9:=hid (λW(hW:Bw w W)=>And.intro (zn.keep ha (show zA Z w W from .of_below_lt hW λb _ E=>hz b E)) (zn.keep E (show zA Z w W from .of_below_lt hW λb _ E=>hz b E)));have df:=hid hz;have lk:=hid i9;have cj:=hid (λ(W W':World)(hW:Bw w7 W)(hk:zA (λb=>b≠(w.heap.size+1+1+1)/\b≠(w.heap.size+1+1+1+1)/\b≠(w.heap.size+1+1+1+1+1)) W W')=>(show Bw w W' from(jc.trans (hW.mono (by omega))).trans (z8 (hk.mono λb _(E:b<w.heap.size)=>⟨by omega,by omega,by omega⟩) (by have:=hW.size;omega))));clear h ha E hz mn mo i9;have aa:=bp.out;have p0:=aa.at0;have p1:=aa.at1;have p2:=aa.at2;have p3:=aa.at3;have p4:=aa.at4;have p5:=aa.cell 5;have pl:=aa.lt;clear aa;go_wp2_with fail
 refine(zJr Z _ _ _ _ s w7 (db _ (Below.refl _ _)) (ea _ (Below.refl _ _))).mono ?_;rintro e w8 ⟨rfl,a4⟩;have a4:=hid a4;clear p0 p1 p2 p3 p4 p5 pl;by_cases bc:zCR s=false
 ·rw[bc];go_upto_region 3 with fail
  go_step;refine zL3 (bv:= .bool false) (er:= .int .i64 1) (cb.below a4 cb.lt) (b5.below a4 b5.lt) (b6.below a4 b6.lt) (ca.below a4 ca.lt) (by omega) (by omega) (by omega) underlying38 rfl (by kernel_rfl) (by simp[Value.oneCell']) rfl (by kernel_rfl) (by kernel_rfl) rfl rfl ?_;intro w' h3 h4 h5 hk;go_wp2_with fail
  exact zKY (x:=dy) (by rw[bo.out,if_pos bc]) rfl rfl rfl rfl h3 h4 h5 (cj _ _ a4 hk)
 have bc:zCR s=true:=by simpa using bc
 have gq:=hid bc;clear bc
 have hi:=hid (λk(hk:k<2) de(hn:de≠0)(h0:(zP (zE1 a b k) s).2=de)(hd:∀j,j<k->(zP (zE1 a b j) s).2=0)=>(show dy=(zCa,false,de) from by
  rw[bo.out,if_neg (by rw[gq.out];simp)];have:k=0\/k=1:=by omega
  rcases this with rfl|rfl
  ·have h0:(zP a s).2=de:=h0;rw[if_pos (by rw[h0];exact hn),h0]
  have h1:(zP a s).2=0:=hd 0 (by omega);have h0:(zP b s).2=de:=h0
  rw[if_neg (by simp[h1]),if_pos (by rw[h0];exact hn),h0]))
 have io:=hid (λk(hk:k<2)=>(show ∃A n dg,(#[.slice LA a.length G,.slice LB b.length H]:Array Value)[k]? =some (.slice A n dg)/\(∀W,Bw w7 W->zn Z W (.slice A n dg) (zE1 a b k))/\∀m∈zE1 a b k,zH m.when_<=1000000 from by
  have:k=0\/k=1:=by omega
  rcases this with rfl|rfl
  ·exact⟨LA,a.length,G,rfl,jh.out,dz.1⟩
  exact⟨LB,b.length,H,rfl,ji.out,dz.2⟩))
 have a0:=(bz.below a4 bz.lt).at0;have al:=(bz.below a4 bz.lt).lt;have b0:=(b1.below a4 b1.lt).at0;have bl:=(b1.below a4 b1.lt).lt;go_wp2_with fail
 have kj:=hid (Blk.new w8 22 #[.slice LA a.length G,.slice LB b.length H]);have mu:=hid (a4.alloc a4.size (.cells #[.slice LA a.length G,.slice LB b.length H] 22));clear a0 al b0 bl;have om:=a4.size;have oo:w8.heap.size<(w8.alloc (.cells #[.slice LA a.length G,.slice LB b.length H] 22)).heap.size :=by simp
 generalize w8.alloc _=w9 at*;go_loopw[10,39] (λv i wr=>∃(k:Nat)(L:List Int),k<=2/\i= .int .i64 (k:Int)/\L.length<=601*k/\Hid (wr.ownsRow w7.heap.size 3 1 v L.length (L.map (.int .i64)))/\Hid (L=(List.range k).flatMap λj=>(zBd (zE1 a b j) s.auths s.zones).1)/\Hid (∀j,j<k->(zP (zE1 a b j) s).2=0)/\Hid (Blk wr w8.heap.size 22 #[.slice LA a.length G,.slice LB b.length H])/\Hid (Bw w7 wr)) (λ_ i _=>2-(intOf i).toNat);case atStart=>exact⟨0,[],by omega,rfl,by simp,hid (World.ownsRow_nil _ _ _ _),hid rfl,hid (λj h=>absurd h (by omega)),kj,mu⟩
 case round=>
  obtain⟨k,L,hk,rfl,hL,gp,cz,gh,d5,HB⟩:=hrel;by_cases mh:k<2
  ·obtain⟨A,n,dg,l3,mi,mb⟩:=io k mh;(have nv:(k:Int)<2:=by omega);have r0:wr.cell? ⟨w8.heap.size,k,none⟩=some (.slice A n dg):=(d5.cell k).trans l3;have rl:=d5.lt;have aa:=bp.below HB bp.lt;have p0:=aa.at0;have p1:=aa.at1;have p2:=aa.at2;have p3:=aa.at3;have p4:=aa.at4;have p5:=aa.cell 5;have pl:=aa.lt;clear aa;have jj:=hid (And.intro mi mb);clear mi mb l3;(go_wp2_with fail);refine(zIL Z _ _ _ _ _ (zE1 a b k) s wr (jj.1 _ HB) (db _ HB) (ea _ HB) jj.2).mono ?_;rintro e g8 ⟨vv,rfl,⟨q1,q2,rfl,eg,eh⟩,E⟩;obtain⟨F1,bf,rfl,-⟩:=eg.form;obtain⟨F2,bg,rfl,-⟩:=eh.form;have a3:=hid (HB.trans (E.mono HB.size));have ei:=hid (d5.below E d5.lt);have fd:=hid (own_below gp E);clear eg eh E p0 p1 p2 p3 p4 p5 pl r0 rl HB d5 gp;generalize (zP (zE1 a b k) s).1.kind =dk at*;generalize (zP (zE1 a b k) s).1.forbids.length =ec at*;generalize (zP (zE1 a b k) s).1.blocks.length =ed at*;obtain⟨de,j3⟩:∃d,(zP (zE1 a b k) s).2=d:=⟨_,rfl⟩;rw[j3];have kq:=hid j3;clear j3;by_cases j2:de=0
   ·subst j2;(go_upto_region 9 with fail);have I:=hid (a3.alloc a3.size (.cells #[.int .i64 dk,.slice F1 ec bf,.slice F2 ed bg] 36));have cu:=hid (ei.alloc (.cells #[.int .i64 dk,.slice F1 ec bf,.slice F2 ed bg] 36));have fe:=hid (fd.alloc (.cells #[.int .i64 dk,.slice F1 ec bf,.slice F2 ed bg] 36));generalize g8.alloc _=ae at*;clear a3 ei fd;have aa:=bp.below I bp.lt;have p1:=aa.at1;have p2:=aa.at2;have pl:=aa.lt;clear aa;(go_wp2_with fail);refine(zPC Z _ _ _ (zE1 a b k) s.auths s.zones ae (jj.1 _ I) (db _ I).a (db _ I).z (ea _ I)).mono ?_;rintro e o5 ⟨vc,rfl,gb,E⟩;have ma:=zPF (zE1 a b k) s.auths s.zones;obtain⟨C,hC⟩:∃C,(zBd (zE1 a b k) s.auths s.zones).1=C:=⟨_,rfl⟩;rw[hC]at gb ma;obtain⟨n7,n9,rfl,ns,nt,gd⟩:=Row.of_own gb (by decide);have mx:=hid hC;have lf:=hid gd;have ci:=hid (I.trans (E.mono I.size));have ej:=hid (cu.below E cu.lt);have da:=own_below fe E;generalize (zBd (zE1 a b k) s.auths s.zones).2=ce at*;clear hC gb E gd p1 p2 pl I cu fe;have gg:=ci.size;go_wp2_with(at_builtin;refine zLt rfl (.tmp 62) (.tmp 63) _ rfl underlying33 Tryz.eIntE rfl da rfl (by simp) lf (by simp[Value.oneCell']) (by unfold maxLen;omega) (by omega) gg ?_;intro o4 cc g5 i5 m9);have kk:=hid (zAs ci da i5 gg (Nat.le_refl _))
    have j8:u10.ownBlock≠some w8.heap.size:=λe=>by
     rcases da.2 with⟨rfl,-⟩|⟨g,cap',cur,rfl,-,hg,-⟩
     ·simp[Value.ownBlock]at e
     have e:g=w8.heap.size:=Option.some.inj e;rw[e]at hg;have:=ej.symm.trans hg;simp at this
    have jb:=hid (ej.grown i5 j8);go_roundw
    case rel=>
     exact⟨k+1,L++C,by omega,by go_num,by rw[List.length_append];omega,hid (by rw[List.length_append,List.map_append];exact g5),hid (by rw[List.range_succ,List.flatMap_append,<-cz.out];simp[mx.out]),hid (λj hj=>by
      by_cases nd:j=k
      ·subst nd;exact kq.out
      exact gh j (by omega)),jb,kk⟩
    case measure=>simp[intOf];omega
   (have oi:(de !=0)=true:=by simpa using j2);(go_upto_region 10 with fail);have I:=hid (a3.alloc a3.size (.cells #[.int .i64 dk,.slice F1 ec bf,.slice F2 ed bg] 36));generalize g8.alloc _=ae at*;have H6:=cb.below I cb.lt;have H3:=b5.below I b5.lt;have H4:=b6.below I b6.lt;have H5:=ca.below I ca.lt
   go_wp2_with(first
    |(refine zDq rfl 38 (.tmp 9) rfl rfl H6 _ underlying38 rfl (by kernel_rfl) ?_)
    |(refine zTT (bv:= .bool false) (er:= .int .i64 de) H3 H4 H5 (by omega) (by omega) (by omega) (by kernel_rfl) (by simp[Value.oneCell']) rfl (by kernel_rfl) (by kernel_rfl) rfl rfl ?_;intro w' h3 h4 h5 af))
   exact zKY (x:=dy) (hi k mh de j2 kq gh) rfl rfl rfl rfl h3 h4 h5 (cj _ _ I af)
  obtain rfl:k=2:=by omega
  have bu:=hid (show MOk a s from zBt.1 (by rw[<-zEo];exact gh 0 (by omega)));have d7:=hid (show MOk b s from zBt.1 (by rw[<-zEo];exact gh 1 (by omega)));have lr:L=(zBd a s.auths s.zones).1++(zBd b s.auths s.zones).1:=by rw[cz.out,show List.range 2=[0,1] from rfl];simp[zE1]
  have lq:(0:Int)∈L:=by rw[lr,List.mem_append];exact .inl (((zHT bu).2 0).2 (.inl rfl))
  obtain⟨m,hm⟩:∃m,L.length=m+1:=⟨L.length-1,by have:=List.length_pos_of_mem lq;omega⟩;have g4:=gp.out;rw[hm]at g4;obtain⟨g,cn,rfl⟩:=zBc g4;have li:=hid (zKQ g4 (by omega))
  have kw:=hid (show zDL a b s=Lib.compact (L.mergeSort λx y=>decide (x<=y)) from by
   have hs:(L.mergeSort λx y=>decide (x<=y)).Pairwise (· <= ·):=by
    have:=List.pairwise_mergeSort (le:=λ(x y:Int)=>decide (x<=y)) (λa b c h1 h2=>by simp only[decide_eq_true_eq]at*;omega) (λa b=>by simp only[Bool.or_eq_true,decide_eq_true_eq];omega) L;exact this.imp λh=>by simpa using h
   obtain⟨h1,h2⟩:=zGe hs;(refine zOB (zM6 a b s) h1 λx=> ?_);rw[h2,List.mem_mergeSort,lr];unfold zDL zJD;rw[zHS]
   simp)
  clear lq g4 gp cz d5;go_wp2_with fail
  refine li.mono ?_;rintro e g8 ⟨rfl,kf,i7⟩;have ob:=(kf.lt g rfl).1;have a3:=hid (show Bw w7 g8 from HB.trans (z8 (i7.mono λb _(E:b<w7.heap.size)=>by omega) HB.size));have km:=hid (zHR kf);clear li kf i7;go_wp2_with fail
  refine km.mono ?_;rintro e ae ⟨ys,ms,rfl,mr,i8⟩;have I:=hid (show Bw w7 ae from a3.trans (z8 (i8.mono λb _(E:b<w7.heap.size)=>by omega) a3.size));have cm:=hid (show zDL a b s=ys from by rw[kw.out,ms]);have gs:=hid mr;clear kw km mr i8 ms a3 HB;by_cases m0:ys.length<=40
  ·(have i3:¬((40:Int)<(ys.length:Int)):=by omega);go_upto_region 18 with fail
   have d8:=hid (λ(W:World)(hW:Bw ae W)=>(show(W.cell? ⟨w.heap.size,0,none⟩=some (.slice LA a.length G)/\w.heap.size<W.heap.size/\W.cell? ⟨(w.heap.size+1),0,none⟩=some (.slice LB b.length H)/\(w.heap.size+1)<W.heap.size)/\(W.cell? ⟨(w.heap.size+1+1),0,none⟩=some (.slice DA s.dom.length J)/\W.cell? ⟨(w.heap.size+1+1),1,none⟩=some (.slice NA s.auths.length N)/\W.cell? ⟨(w.heap.size+1+1),2,none⟩=some (.slice ZA s.zones.length O)/\W.cell? ⟨(w.heap.size+1+1),3,none⟩=some (.slice CA s.cases.length T)/\W.cell? ⟨(w.heap.size+1+1),4,none⟩=some (.int .i64 s.signed)/\W.cell? ⟨(w.heap.size+1+1),5,none⟩=some (.int .i64 s.now)/\(w.heap.size+1+1)<W.heap.size) from by
    have hB:=I.trans (hW.mono I.size);have g0:=bz.below hB bz.lt;have g1:=b1.below hB b1.lt;have g2:=bp.below hB bp.lt
    exact⟨⟨g0.at0,g0.lt,g1.at0,g1.lt⟩,g2.at0,g2.at1,g2.at2,g2.at3,g2.at4,g2.cell 5,g2.lt⟩))
   refine zJb 13 (λW=>Bw ae W) ?_;have lm:Bw ae ae.drew:=(Below.refl _ _).drew;have hS:(λW=>Bw ae W) ae.drew:=lm;generalize ae.drew=x0 at*
   (refine tkS 0 ?_ hS ?_ ?_;rotate_left;intro w ab;obtain⟨⟨a0,al,b0,bl⟩,p0,p1,p2,p3,p4,p5,pl⟩:=d8 _ ab;clear ab;go_simp;(try with_reducible rfl);simp only[nr])
   try simp only[nq]
   (refine tkS 1 ?_ hS ?_ ?_;rotate_left;intro w ab;obtain⟨⟨a0,al,b0,bl⟩,p0,p1,p2,p3,p4,p5,pl⟩:=d8 _ ab;clear ab;go_simp;(try with_reducible rfl);simp only[nr])
   try simp only[nq]
   (refine tkS 5 ?_ hS ?_ ?_;rotate_left;intro w ab;obtain⟨⟨a0,al,b0,bl⟩,p0,p1,p2,p3,p4,p5,pl⟩:=d8 _ ab;clear ab;go_simp;(try with_reducible rfl);simp only[nr])
   try simp only[nq]
   (refine tkS 6 ?_ hS ?_ ?_;rotate_left;intro w ab;obtain⟨⟨a0,al,b0,bl⟩,p0,p1,p2,p3,p4,p5,pl⟩:=d8 _ ab;clear ab;go_simp;(try with_reducible rfl);simp only[nr])
   (try simp only[nq]);clear hS;refine wSA λA0 hA=> ?_
   refine wSI (λ(L:Array Bool)(a1:Act)(x:World)=>∃(b2 b3 b4 b7 b8 b9 ap aq ak ao:Bool)(a8 a9 au ba bb av az a2:Value),L=#[true,true,b2,b3,b4,true,true,b7,b8,b9,ap,aq,ak,ao]/\a1=(((((((A0.put (some 76) a8).put (some 77) a9).put (some 78) au).put (some 81) ba).put (some 82) bb).put (some 83) av).put (some 17) az).put (some 18) a2/\
    Bw ae x/\zC1 ae x (λm=>#[.slice LA a.length G,.slice DA s.dom.length J,.slice NA s.auths.length N,.slice ZA s.zones.length O,.slice CA s.cases.length T,.int .i64 s.signed,.int .i64 s.now,m,.int .i64 0]) b2 b3 b4 a8 a9 au/\zC1 ae x (λm=>#[.slice LB b.length H,.slice DA s.dom.length J,.slice NA s.auths.length N,.slice ZA s.zones.length O,.slice CA s.cases.length T,.int .i64 s.signed,.int .i64 s.now,m,.int .i64 0]) b7 b8 b9 ba bb av/\
    zDB ae x ap ak az au/\zDB ae x aq ao a2 av/\zOO b2 b7 (a8≠ba)/\zOO b4 b9 (au≠av)/\zOO ap aq (az≠a2)/\zOO ak true (b4=true)/\zOO ao true (b9=true)) ?_ ?_ ?_ ?_ (by kernel_rfl) _ _ _ _ (by decide) ?_
   ·rintro L a1 x ⟨b2,b3,b4,b7,b8,b9,ap,aq,ak,ao,a8,a9,au,ba,bb,av,az,a2,-,-,E,-⟩;exact .inr E
   ·rintro L a1 x ⟨b2,b3,b4,b7,b8,b9,ap,aq,ak,ao,a8,a9,au,ba,bb,av,az,a2,rfl,-⟩;rfl
   ·rintro L a1 x ⟨b2,b3,b4,b7,b8,b9,ap,aq,ak,ao,a8,a9,au,ba,bb,av,az,a2,rfl,rfl,E,hx,hy,hp,hq,n1,n2,n3,k1,k2⟩ ac;have e2:b2=true:=ac 2;have e3:b3=true:=ac 3;have e4:b4=true:=ac 4;have e7:b7=true:=ac 7;have e8:b8=true:=ac 8;have e9:b9=true:=ac 9;have fu:ap=true:=ac 10;have fv:aq=true:=ac 11;have fw:ak=true:=ac 12;have mz:ao=true:=ac 13;subst e2 e3 e4 e7 e8 e9 fu fv fw mz;have n1:=n1 rfl rfl;have n2:=n2 rfl rfl;have n3:=n3 rfl rfl;obtain⟨P1,rfl,lu,bj⟩:=hp.b rfl;obtain⟨P2,rfl,lw,ai⟩:=hq.b rfl;obtain⟨-,B1,rfl,fx,bh⟩:=hx.b rfl;obtain⟨-,B2,rfl,fy,bi⟩:=hy.b rfl;obtain⟨M1,rfl,f1,cq⟩:=hx.m rfl;obtain⟨M2,rfl,f2,cr⟩:=hy.m rfl;(have ln:B1≠B2:=λe=>n2 (by rw[e]));(have ls:M1≠M2:=λe=>n1 (by rw[e]));have lx:P1≠P2:=λe=>n3 (by rw[e])
    have bs:∀{g M:Nat}{t:TypeId}{cs:Array Value},Blk x g t cs->zS encI x M ([]:List (Int × Value))->g≠M:=λ{g M t cs} h h' e=>by
     obtain⟨es,cl,h1,-⟩:=h';rw[<-e]at h1;have:=(show x.heap[g]? =some (.cells cs t (0,0)) from h).symm.trans h1;simp at this
    have j0:Bw w x:=(jc.trans (I.mono (by omega))).trans (E.mono (by have:=I.size;omega));have bq:Bw w7 x:=I.trans (E.mono I.size);have nl:w7.heap.size<=ae.heap.size:=I.size
    have di:∀b,ES B1 M1 B2 M2 b->b<x.heap.size/\ae.heap.size<=b:=λb E=>by
     rcases E with rfl|rfl|rfl|rfl
     ·exact⟨bh.lt,fx⟩
     ·exact⟨cq.lt,f1⟩
     ·exact⟨bi.lt,fy⟩
     exact⟨cr.lt,f2⟩
    (have j1:∀b,Z b->b<x.heap.size/\¬ES B1 M1 B2 M2 b:=λb hz=>⟨ea _ bq b hz,λhe=>by have:=(di b he).2;have:=ea _ (Below.refl _ _) b hz;omega⟩);have hT:zBr w.heap.size x:=lk.on j0;(have HJ:∀(F:Nat),True:=λ_=>trivial);have HX:=hid (show zQ (ES B1 M1 B2 M2) Z w.heap.size x B1 M1 a s ⟨0,[]⟩ from⟨⟨_,_,_,_,_,bh,jh _ bq,db _ bq⟩,⟨[],cq,trivial⟩,.inl rfl,.inr (.inl rfl),bs bh cq,j1,λb E=>⟨(di b E).1,by have:=(di b E).2;omega⟩,hT⟩);have HY:=hid (show zQ (ES B1 M1 B2 M2) Z w.heap.size x B2 M2 b s ⟨0,[]⟩ from⟨⟨_,_,_,_,_,bi,ji _ bq,db _ bq⟩,⟨[],cr,trivial⟩,.inr (.inr (.inl rfl)),.inr (.inr (.inr rfl)),bs bi cr,j1,λb E=>⟨(di b E).1,by have:=(di b E).2;omega⟩,hT⟩);have jl:=hid (show Blk x P1 68 #[.pointer (some ⟨B1,0,none⟩)] from bj);have jm:=hid (show Blk x P2 68 #[.pointer (some ⟨B2,0,none⟩)] from ai)
    have aj:=hid (show(B1≠B2/\M1≠M2/\P1≠P2/\B1≠M1/\B1≠M2/\B2≠M1/\B2≠M2)/\(P1≠B1/\P1≠M1/\P1≠B2/\P1≠M2/\P2≠B1/\P2≠M1/\P2≠B2/\P2≠M2)/\(ae.heap.size<=B1/\ae.heap.size<=M1/\ae.heap.size<=B2/\ae.heap.size<=M2) from
     ⟨⟨ln,ls,lx,bs bh cq,bs bh cr,bs bi cq,bs bi cr⟩,⟨bj.ne_ bh (by decide),bs bj cq,bj.ne_ bi (by decide),bs bj cr,ai.ne_ bh (by decide),bs ai cq,ai.ne_ bi (by decide),bs ai cr⟩,fx,f1,fy,f2⟩)
    have ci:=hid j0;have et:=hid di;have nu:=(gs.lt g rfl).2;have bm:=hid bq;have i2:=hid (own_below gs E);clear E hx hy hp hq n1 n2 n3 k1 k2 ac bj ai bh bi cq cr ln ls lx bs j0 bq di j1 hT HJ lu lw fx fy f1 f2 gs I;subst hA;simp only[nr];unfold zK2;dsimp only;(go_wp2_with fail);go_step3;have HF:=hid (Blk.new x 75 #[.func (.func 31) #[] #[.pointer (some ⟨P1,0,none⟩)]]);have na:=hid (zG x (.cells #[.func (.func 31) #[] #[.pointer (some ⟨P1,0,none⟩)]] 75));(have nk:x.heap.size<(x.alloc (.cells #[.func (.func 31) #[] #[.pointer (some ⟨P1,0,none⟩)]] 75)).heap.size :=by simp);generalize x.alloc _=cc at*;(go_wp2_with fail);refine(zSK _ _ _ _).mono ?_;rintro e cd ⟨rfl,rfl⟩;have mw:=hid (Blk.new cc 33 #[.slice (some ⟨g,0,none⟩) ys.length cn]);have l6:=hid (zG cc (.cells #[.slice (some ⟨g,0,none⟩) ys.length cn] 33));(have oq:cc.heap.size<(cc.alloc (.cells #[.slice (some ⟨g,0,none⟩) ys.length cn] 33)).heap.size :=by simp);generalize cc.alloc _=cd at*;(go_wp2_with fail);(have nl:w.heap.size+7<=x.heap.size:=by have:=bm.size;omega);have ax:Bw x cd:=na.trans (l6.mono (by omega));have fs:=hid (own_below i2 ax)
    have cg:=hid (show DiJ w Z w.heap.size P1 B1 M1 P2 B2 M2 x.heap.size #[.slice LA a.length G] #[.slice LB b.length H] #[.slice DA s.dom.length J,.slice NA s.auths.length N,.slice ZA s.zones.length O,.slice CA s.cases.length T,.int .i64 s.signed,.int .i64 s.now] #[.int .i64 0,.int .i64 0,.slice none 0 0,.int .i64 0,.slice none 0 0,.slice none 0 0,.int .i64 0,.slice none 0 0,.slice none 0 0] a b s cd ⟨0,[]⟩ ⟨0,[]⟩ from by
     have dm:Bw w7 cd:=bm.trans (ax.mono bm.size)
     exact⟨HX.below ax,HY.below ax,⟨bz.below dm bz.lt,b1.below dm b1.lt,bp.below dm bp.lt,b5.below dm b5.lt,b6.below dm b6.lt,ca.below dm ca.lt,cb.below dm cb.lt,jl.below ax jl.lt,jm.below ax jm.lt,HF.below l6 nk⟩,ci.trans (ax.mono (by omega))⟩)
    clear HX HY jl jm HF bz b1 bp b5 b6 ca cb ci i2 cj;refine(wpIn_wide (n:=6)).1 ?_;(refine zS0 λA1 co=> ?_);obtain⟨F,hF⟩:∃F,x.heap.size=F:=⟨_,rfl⟩;rw[hF]at cg co;have gd:=fs.out;obtain⟨A9,nn,e9,l7,nb,kd⟩:=Row.of_own fs (by decide);injection e9 with e91 e92 e93;subst e91 e93;have mc:w7.heap.size<=g/\g<cd.heap.size:=fs.lt g rfl
    refine wpIn_rangeFunc_ownG (w:=cd) rfl (by omega) (gf:=67) (lb:=#[.pointer (some ⟨cc.heap.size,0,none⟩)]) (by rw[co];rfl) trivial (enters_of func67 (by kernel_rfl) rfl)
     (zPD Fence.wide _ trivial rfl (by omega) (λb=>b=cc.heap.size\/b=g) cc.heap.size (some ⟨g,0,none⟩) cn ys (by omega) cd (by omega) (.inl rfl) mw.at0 l7 (by simpa[maxLen]using nb) (λk hk=>by
      obtain⟨b',o3,e,hz,l9⟩:=kd (by intro e;rw[List.map_eq_nil_iff]at e;rw[e]at hk;simp at hk);injection e with e;injection e with e1 e2;subst e1 e2
      exact⟨g,0,rfl,.inr rfl,mc.2,l9 k _ (by simp[hk])⟩))
     (λh k=>zA.trans h k) (zMI (by intro b E;rcases E with rfl|rfl<;>omega)) (Below.refl _ _) (λ_=>rfl)
     (λbk W=>∃X Y,DiJ w Z w.heap.size P1 B1 M1 P2 B2 M2 F #[.slice LA a.length G] #[.slice LB b.length H] #[.slice DA s.dom.length J,.slice NA s.auths.length N,.slice ZA s.zones.length O,.slice CA s.cases.length T,.int .i64 s.signed,.int .i64 s.now] #[.int .i64 0,.int .i64 0,.slice none 0 0,.int .i64 0,.slice none 0 0,.slice none 0 0,.int .i64 0,.slice none 0 0,.slice none 0 0] a b s W X Y/\(bk=zCq (zx ys).length bk.length->zBk a b s (zx ys) ⟨0,[]⟩ ⟨0,[]⟩=zBk a b s ((zx ys).drop bk.length) X Y))
     (λc bk W=>c= .ret /\w.heap.size<=W.heap.size/\∃R,zOM w.heap.size w W R/\(bk=zCq (zx ys).length bk.length->zBk a b s (zx ys) ⟨0,[]⟩ ⟨0,[]⟩=R))
     (λs' W W' row hs gy hr=>by
      obtain⟨X,Y,h1,h2⟩:=hs
      exact⟨X,Y,h1.kept (n:=cd.heap.size) gy (λr e=>⟨(hr r e).1,(hr r e).2⟩) (by have:=(cg.x.e M1 cg.x.em).1;exact this) ((cg.y.e M2 cg.y.em).1) (λb E=>(cg.x.z b E).1) (cg.x.low),h2⟩)
     (λc s' W W' row hs gy hr=>by
      obtain⟨h1,h2,R,h3,h4⟩:=hs
      exact⟨h1,Nat.le_trans h2 gy.size,R,h3.kept (n:=cd.heap.size) gy (λr e=>⟨(hr r e).1,(hr r e).2⟩) (cg.x.low) h2,h4⟩)
     ⟨_,_,cg.out,λ_=>rfl⟩
     (λy=>(((A1.put (some 87) (.int .i64 (zCu ys y.1).1)).put (some 88) (.int .i64 (zCu ys y.1).2)).put (some 20) (.int .i64 (zCu ys y.1).1)).put (some 21) (.int .i64 (zCu ys y.1).2)) ?assign ?body ?done ?stop
    case assign=>
     intro l y W K hK;unfold zNI;subst co;simp only[nr]at hK
     gi_wp2
     exact hK
    case body=>
     rintro l bk y W ⟨X,Y,hJ,hs⟩ oj;obtain⟨sg,g6⟩:∃v,(zCu ys y.1).1=v:=⟨_,rfl⟩;obtain⟨nw,g3⟩:∃v,(zCu ys y.1).2=v:=⟨_,rfl⟩
     have gr:=hid (λ(h:bk++[y]=zCq (zx ys).length (bk++[y]).length)=>(show zBk a b s (zx ys) ⟨0,[]⟩ ⟨0,[]⟩=zBk a b s ((sg,nw)::(zx ys).drop (bk++[y]).length) X Y from by
      rw[List.length_append,List.length_singleton]at h⊢;obtain⟨h1,h2⟩:=zMJ (by omega) h;(have h3:bk.length=y.1:=by omega);rw[hs (by rw[h3];exact h2),h3,List.drop_eq_getElem_cons y.2];have:(zx ys)[y.1]=zCu ys y.1:=by unfold zCu;simp[List.getD_eq_getElem?_getD]
      rw[this,<-g6,<-g3]))
     have gc:=zD6.1 bu.p;have ko:=hid (λ(W':World)(st:zAH)(h:zQ (ES B1 M1 B2 M2) Z w.heap.size W' B1 M1 a s st)=>h.conditions sg nw gc.z bu.n dz.1 gc.n6);have kp:=hid (λ(W':World)(st:zAH)(h:zQ (ES B1 M1 B2 M2) Z w.heap.size W' B2 M2 b s st)=>h.conditions sg nw gc.z d7.n dz.2 gc.n6)
     have jk:=hid (show(¬zHW w.heap.size P1 P2 F B1/\¬zHW w.heap.size P1 P2 F M1)/\(¬zHW w.heap.size P1 P2 F B2/\¬zHW w.heap.size P1 P2 F M2) from by
      have g7:∀b,ES B1 M1 B2 M2 b->P1≠b->P2≠b->¬zHW w.heap.size P1 P2 F b:=λb E n1 n2 h=>by
       have h1:=et b E;have h2:=bm.size;rcases h with h|h|h|h
       ·omega
       ·exact n1 h.symm
       ·exact n2 h.symm
       omega
      have n:=aj.2.1
      exact⟨⟨g7 B1 (.inl rfl) n.1 n.2.2.2.2.1,g7 M1 (.inr (.inl rfl)) n.2.1 n.2.2.2.2.2.1⟩,⟨g7 B2 (.inr (.inr (.inl rfl))) n.2.2.1 n.2.2.2.2.2.2.1,g7 M2 (.inr (.inr (.inr rfl))) n.2.2.2.1 n.2.2.2.2.2.2.2⟩⟩)
     have lh:=hid (show I64 sg/\I64 nw from by
      have hm:zCu ys y.1∈zx ys:=by
       unfold zCu;rw[List.getD_eq_getElem?_getD,List.getElem?_eq_getElem y.2];exact List.getElem_mem y.2
      have ha:=zM6 a b s;rw[cm.out]at ha;generalize zCu ys y.1=q at*;obtain⟨m1,m2,-⟩:=(zLN ha).1 hm;rw[<-cm.out]at m1 m2;have o1:=zOA bu d7 m1;have o2:=zOA bu d7 m2;rw[g6]at o1;rw[g3]at o2;unfold I64
      omega)
     rw[g6,g3];have HJ:=hid hJ;have kz:=hid (λb(E:ES B1 M1 B2 M2 b)=>(HJ.x.e b E).1);have p0:=hJ.bx.p1.at0;have pl:=hJ.bx.p1.lt;clear hJ hs g6 g3 gc;subst co;simp only[nr]
     gi_step
     gi_step
     gi_step
     refine zAu ?_;(go_wp2_with fail);refine(ko _ _ HJ.x).mono ?_;rintro e W1 ⟨A1,c1,A2,c2,rfl,dp,dq,kg,hk⟩;obtain⟨U,hU⟩:∃U,zBV a s sg nw X=U:=⟨_,rfl⟩;rw[hU]at dp dq kg;rw[hU];have HU:=hid hU;have kx:=hid (HJ.callX jk.1 ⟨aj.1.1.symm,aj.1.2.2.2.2.2.1,aj.1.2.2.2.2.1.symm,aj.1.2.1.symm⟩ kg hk);have ks:=hid dp;have kt:=hid dq;have jf:=hid hk;have nm:=hk.size;clear hU dp dq kg hk p0 pl ko;(go_wp2_with fail);have iy:=hid ((Blk.new W1 74 #[.slice A1 U.1.length c1]).alloc (.cells #[.slice A2 U.2.1.length c2] 74));have iz:=hid (Blk.newE (W1.alloc (.cells #[.slice A1 U.1.length c1] 74)) 74 #[.slice A2 U.2.1.length c2] (n:=W1.heap.size+1) (by simp));have fo:=hid (zCX W1 (.cells #[.slice A1 U.1.length c1] 74) (.cells #[.slice A2 U.2.1.length c2] 74));(have os:((W1.alloc (.cells #[.slice A1 U.1.length c1] 74)).alloc (.cells #[.slice A2 U.2.1.length c2] 74)).heap.size =W1.heap.size+2:=by simp);generalize (W1.alloc _).alloc _=W2 at*;refine⟨?_,λh=>by cases h⟩;have eu:=hid (kx.below fo);have hl:=hid (ks.live.keep (.of_below fo));have hv:=hid (kt.live.keep (.of_below fo));have p0:=eu.bx.p2.at0;have pl:=eu.bx.p2.lt;have ic:=hid (show zA (λb=>¬ES B1 M1 B2 M2 b) W W2 from(jf.mono λb _ E=>⟨λe=>E (.inl e),λe=>E (.inr (.inl e))⟩).trans (.of_below fo));clear kx ks kt fo
     gi_step
     gi_step
     gi_step
     refine zAu ?_;(go_wp2_with fail);refine(kp _ _ eu.y).mono ?_;rintro e W3 ⟨A3,c3,A4,c4,rfl,dp,dq,kh,hk⟩;obtain⟨V,hV⟩:∃V,zBV b s sg nw Y=V:=⟨_,rfl⟩;rw[hV]at dp dq kh;rw[hV];have HV:=hid hV;have ky:=hid (eu.callY jk.2 ⟨aj.1.1,aj.1.2.2.2.2.1,aj.1.2.2.2.2.2.1.symm,aj.1.2.1⟩ kh hk);have ku:=hid dp;have kv:=hid dq;have ht:=hid (hl.keep (hk.mono λb _ E=>⟨λe=>E.1 (.inr (.inr (.inl e))),λe=>E.1 (.inr (.inr (.inr e)))⟩));have h6:=hid (hv.keep (hk.mono λb _ E=>⟨λe=>E.1 (.inr (.inr (.inl e))),λe=>E.1 (.inr (.inr (.inr e)))⟩));(have dw:∀b,ES B1 M1 B2 M2 b->b<W1.heap.size:=λb E=>by have:=kz b E;have:=jf.size;omega);have dc:=hid (iy.keep hk ⟨λe=>by have:=dw B2 (.inr (.inr (.inl rfl)));omega,λe=>by have:=dw M2 (.inr (.inr (.inr rfl)));omega⟩);have dd:=hid (iz.keep hk ⟨λe=>by have:=dw B2 (.inr (.inr (.inl rfl)));omega,λe=>by have:=dw M2 (.inr (.inr (.inr rfl)));omega⟩);have ot:=hk.size;have ij:=hid hk;clear hV dp dq kh hk p0 pl kp eu hl hv iy iz;(go_wp2_with fail);have i0:=hid ((Blk.new W3 74 #[.slice A3 V.1.length c3]).alloc (.cells #[.slice A4 V.2.1.length c4] 74));have i1:=hid (Blk.newE (W3.alloc (.cells #[.slice A3 V.1.length c3] 74)) 74 #[.slice A4 V.2.1.length c4] (n:=W3.heap.size+1) (by simp));have ch:=hid (zCX W3 (.cells #[.slice A3 V.1.length c3] 74) (.cells #[.slice A4 V.2.1.length c4] 74));(have ou:((W3.alloc (.cells #[.slice A3 V.1.length c3] 74)).alloc (.cells #[.slice A4 V.2.1.length c4] 74)).heap.size =W3.heap.size+2:=by simp);generalize (W3.alloc _).alloc _=W4 at*;refine⟨?_,λh=>by cases h⟩;have ah:=hid (ky.below ch);have hu:=hid (ht.live.keep (.of_below ch));have h7:=hid (h6.live.keep (.of_below ch));have h8:=hid (ku.live.keep (.of_below ch));have ia:=hid (kv.live.keep (.of_below ch));have fq:=hid (dc.below ch dc.lt);have fr:=hid (dd.below ch dd.lt);have p0:=ah.bx.p2.at0;have pl:=ah.bx.p2.lt;obtain⟨w1,w2,w3,w4,w5,ay,-⟩:=ah.y.box;have q8:=ay.cell 8;have ql:=ay.lt;have e5:=hid (show zA (λb=>¬ES B1 M1 B2 M2 b) W W4 from(ic.trans (ij.mono λb _ E=>⟨λe=>E (.inr (.inr (.inl e))),λe=>E (.inr (.inr (.inr e)))⟩)).trans (.of_below ch));clear ky ht h6 ku kv dc dd ch ay jf ij ic
     have gn:=hid (λ(W':World)(hk:zA (λb=>¬ES B1 M1 B2 M2 b/\b≠(w.heap.size+1+1+1)/\b≠(w.heap.size+1+1+1+1)/\b≠(w.heap.size+1+1+1+1+1)) W W')=>(show KeepsFrom cd.heap.size W W'/\zA (λb=>b=cc.heap.size\/b=g) W W' from by
      have hE:=et.out;have np:=bm.size;refine⟨zOP hk λb E=>⟨λhe=>by have:=(hE b he).1;omega,by omega,by omega,by omega⟩,hk.mono λb _ E=> ?_⟩;rcases E with rfl|rfl
      ·exact⟨λhe=>by have:=(hE _ he).1;omega,by omega,by omega,by omega⟩
      exact⟨λhe=>by have:=(hE _ he).2;omega,by omega,by omega,by omega⟩))
     gi_step
     gi_step
     gi_step
     gi_step
     refine zAu ?_;(go_wp2_with fail);refine⟨?_,λh=>by cases h⟩
     gi_step
     gi_step
     refine wpIn_cond_split rfl (λdj=> ?_) (λdj=> ?_)
     ·have dj:V.2.2.err≠0:=by simpa using dj
      gi_step
      refine zAu ?_;refine zL3 (bv:= .bool false) (er:= .int .i64 2) ah.bx.r6 ah.bx.r3 ah.bx.r4 ah.bx.r5 (by omega) (by omega) (by omega) underlying38 rfl (by kernel_rfl) (by simp[Value.oneCell']) rfl (by kernel_rfl) (by kernel_rfl) rfl rfl ?_;intro w' h3 h4 h5 af;refine⟨?_,λh=>by cases h⟩;have cp:=gn w' ((e5.mono λb _ E=>E.1).trans (af.mono λb _ E=>E.2));have mq:=HJ.be.size;have ct:Bw w w':=ah.be.trans (z8 (af.mono λb _(E:b<w.heap.size)=>⟨by omega,by omega,by omega⟩) ah.be.size)
      gi_wp2
      exact⟨cp.1,rfl,ct.size,(zCa,false,2),⟨_,_,_,_,_,h3,h4,h5,zO.nil _ _,⟨_,_,rfl,Names.nil,Names.nil⟩,⟨_,_,rfl,Names.nil,Names.nil⟩,ct⟩,λh=>by rw[gr h,zFc HU HV.out,if_pos dj]⟩
     rw[dj];have jr:=hid (show V.2.2.err=0 from by simpa using dj);(have fz:∀b,ES B1 M1 B2 M2 b->b<W1.heap.size/\b<W3.heap.size/\b<F/\b<W4.heap.size:=λb E=>by have:=kz b E;have:=nm;have:=(et b E).1;omega);have ek:=hid (And.intro (fz B1 (.inl rfl)) (fz M1 (.inr (.inl rfl))));have dr:=hid (And.intro ek.1.2.2.2 ek.2.2.2.2);have bw:=hid (And.intro aj.2.1.1 aj.2.1.2.1);clear dj fz
     have HC:=hid (λ(W':World)(hW:zA (λb=>b≠B1/\b≠M1) W4 W')=>(show W'.cell? ⟨P1,0,none⟩=some (.pointer (some ⟨B1,0,none⟩))/\P1<W'.heap.size/\W'.cell? ⟨F,0,none⟩=some (.func (.func 31) #[] #[.pointer (some ⟨P1,0,none⟩)])/\F<W'.heap.size/\W'.cell? ⟨W1.heap.size,0,none⟩=some (.slice A1 U.1.length c1)/\W1.heap.size<W'.heap.size/\W'.cell? ⟨W1.heap.size+1,0,none⟩=some (.slice A2 U.2.1.length c2)/\W1.heap.size+1<W'.heap.size/\
       W'.cell? ⟨W3.heap.size,0,none⟩=some (.slice A3 V.1.length c3)/\W3.heap.size<W'.heap.size/\W'.cell? ⟨W3.heap.size+1,0,none⟩=some (.slice A4 V.2.1.length c4)/\W3.heap.size+1<W'.heap.size from by
      have hE:=ek.out;have k1:=ah.bx.p1.keep hW ⟨bw.1,bw.2⟩;have k2:=ah.bx.f.keep hW ⟨by omega,by omega⟩;have k3:=fq.keep hW ⟨by omega,by omega⟩;have k4:=fr.keep hW ⟨by omega,by omega⟩;have k5:=i0.keep hW ⟨by omega,by omega⟩;have k6:=i1.keep hW ⟨by omega,by omega⟩
      exact⟨k1.at0,k1.lt,k2.at0,k2.lt,k3.at0,k3.lt,k4.at0,k4.lt,k5.at0,k5.lt,k6.at0,k6.lt⟩))
     clear p0 pl q8 ql
     gi_step
     gi_step
     gi_step
     gi_step
     refine zMo 11 (λW'=>zA (λb=>b≠B1/\b≠M1) W4 W') (by kernel_rfl) (by kernel_rfl) ?_;have lp:zA (λb=>b≠B1/\b≠M1) W4 W4.drew:=(zA.refl _ _).drew;have hS:(λW'=>zA (λb=>b≠B1/\b≠M1) W4 W') W4.drew:=lp;obtain⟨D1,jx⟩:∃d,zER s.dom U.2.2.err U.1 V.1=d:=⟨_,rfl⟩;obtain⟨D2,jy⟩:∃d,zER s.dom D1.2 U.2.1 V.2.1=d:=⟨_,rfl⟩;obtain⟨D3,jz⟩:∃d,zAt s.dom D2.2 D1.1 D2.1=d:=⟨_,rfl⟩;have ja:=hid (show zGf s.dom U.2.2.err U.1 V.1 U.2.1 V.2.1=D3 from by subst jz jy jx;rfl);have HD:=hid (And.intro jx (And.intro jy jz));clear jx jy jz
     have lc:=hid (λQ=>(show R27 (ES B1 M1 B2 M2) Z w.heap.size B1 M1 W4 W4.drew a s U.2.2.built U.2.2.err U.1 V.1 U.2.1 V.2.1 (.slice A1 U.1.length c1) (.slice A3 V.1.length c3) (.slice A2 U.2.1.length c2) (.slice A4 V.2.1.length c4) D1 D2 D3 0 false false undef undef undef undef Q from
      have hz:zA (λb=>¬ES B1 M1 B2 M2 b) W4 W4.drew:=(zA.refl _ _).drew;have he:∀{v:Value}{g:List zB},zK (λb=>¬ES B1 M1 B2 M2 b) W4 v g->zK (λb=>¬EQ (ES B1 M1 B2 M2) false Q b) W4.drew v g:=λ{v g} hn=>(hn.keep hz).mono λb E e=>E (Or.resolve_right e λe=>absurd e.1 (by simp))
      ⟨lp,(ah.x.below (Below.refl _ _).drew).less (λb e=>Or.resolve_right e λe=>absurd e.1 (by simp)) (.inl ah.x.eb) (.inl ah.x.em),he (hu.mono λb E=>E.1.1),he (h8.mono λb E=>E.1),he (h7.mono λb E=>E.1.1),he (ia.mono λb E=>E.1),λe=>by omega,λe=>by omega,λe=>by omega,λe=>absurd e (by simp),λe=>absurd e (by simp)⟩))
     generalize W4.drew=x0 at*
     (refine tkS 0 ?_ hS ?_ ?_;rotate_left;intro w ab;obtain⟨a0,al,b0,bl,d0,dl,e0,el,f0,fl,g0,gl⟩:=HC _ ab;clear ab;go_simp;(try with_reducible rfl);simp only[nr])
     try simp only[nq]
     (refine tkS 1 ?_ hS ?_ ?_;rotate_left;intro w ab;obtain⟨a0,al,b0,bl,d0,dl,e0,el,f0,fl,g0,gl⟩:=HC _ ab;clear ab;go_simp;(try with_reducible rfl);simp only[nr])
     try simp only[nq]
     (refine tkS 2 ?_ hS ?_ ?_;rotate_left;intro w ab;obtain⟨a0,al,b0,bl,d0,dl,e0,el,f0,fl,g0,gl⟩:=HC _ ab;clear ab;go_simp;(try with_reducible rfl);simp only[nr])
     try simp only[nq]
     (refine tkS 3 ?_ hS ?_ ?_;rotate_left;intro w ab;obtain⟨a0,al,b0,bl,d0,dl,e0,el,f0,fl,g0,gl⟩:=HC _ ab;clear ab;go_simp;(try with_reducible rfl);simp only[nr])
     try simp only[nq]
     (refine tkS 5 ?_ hS ?_ ?_;rotate_left;intro w ab;obtain⟨a0,al,b0,bl,d0,dl,e0,el,f0,fl,g0,gl⟩:=HC _ ab;clear ab;go_simp;(try with_reducible rfl);simp only[nr])
     try simp only[nq]
     (refine tkS 6 ?_ hS ?_ ?_;rotate_left;intro w ab;obtain⟨a0,al,b0,bl,d0,dl,e0,el,f0,fl,g0,gl⟩:=HC _ ab;clear ab;go_simp;(try with_reducible rfl);simp only[nr])
     try simp only[nq]
     (refine tkS 7 ?_ hS ?_ ?_;rotate_left;intro w ab;obtain⟨a0,al,b0,bl,d0,dl,e0,el,f0,fl,g0,gl⟩:=HC _ ab;clear ab;go_simp;(try with_reducible rfl);simp only[nr])
     (try simp only[nq]);clear hS;(refine wSA λA0 hA=> ?_);refine wSI (λ(L:Array Bool)(a1:Act)(x:World)=>∃(c:Nat)(p f:Bool)(u1 u2 u3 u26:Value)(Q:Nat),c<=3/\L=#[true,true,true,true,decide (1<=c),true,true,true,decide (2<=c),decide (3<=c),p,f]/\a1=(((A0.put (some 113) u1).put (some 117) u2).put (some 118) u3).put (some 26) u26/\R27 (ES B1 M1 B2 M2) Z w.heap.size B1 M1 W4 x a s U.2.2.built U.2.2.err U.1 V.1 U.2.1 V.2.1 (.slice A1 U.1.length c1) (.slice A3 V.1.length c3) (.slice A2 U.2.1.length c2) (.slice A4 V.2.1.length c4) D1 D2 D3 c p f u1 u2 u3 u26 Q) ?_ ?_ ?_ ?_ (by kernel_rfl) _ _ _ _ (by decide) ?_
     ·rintro L a1 x ⟨c,p,f,u1,u2,u3,u26,Q,-,-,-,h⟩;exact .inr h.k
     ·rintro L a1 x ⟨c,p,f,u1,u2,u3,u26,Q,-,rfl,-⟩;rfl
     ·rintro L a1 x ⟨c,p,f,u1,u2,u3,u26,Q,l8,rfl,rfl,h⟩ ac;have e9:3<=c:=of_decide_eq_true (ac 9);have fu:p=true:=ac 10;have fv:f=true:=ac 11;(obtain rfl:c=3:=by omega);subst fu fv;obtain⟨AL,kl,rfl,oa,ly,j9,mp⟩:=h.done (.inl rfl) (.inr (.inl rfl));have gz:=h.k;have ar:=hid (ah.callX jk.1 ⟨aj.1.1.symm,aj.1.2.2.2.2.2.1,aj.1.2.2.2.2.1.symm,aj.1.2.1.symm⟩ mp gz);have e6:=hid (show zA (λb=>¬ES B1 M1 B2 M2 b) W x from e5.trans (gz.mono λb _ E=>⟨λe=>E (.inl e),λe=>E (.inr (.inl e))⟩));have HQ:=hid ly;have la:=hid j9;have oz:=gz.size;clear h ac ly j9 mp gz HC lc HK d8 fq fr i0 i1 hu h7 h8 ia e5 ah;refine⟨?_,λh=>by cases h⟩;subst hA;simp only[nr];obtain⟨w1,w2,w3,w4,w5,ay,-⟩:=ar.x.box;have q8:=ay.cell 8;have ql:=ay.lt;have p0:=ar.bx.p1.at0;have pl:=ar.bx.p1.lt;clear ay
      gi_step
      gi_step
      gi_step
      gi_step
      refine zAu ?_;(go_wp2_with fail);clear q8 ql p0 pl;refine wpIn_cond_split rfl (λdh=> ?_) (λdh=> ?_)
      ·have dh:D3.2≠0:=by simpa using dh
       gi_step
       refine zAu ?_;refine zL3 (bv:= .bool false) (er:= .int .i64 2) ar.bx.r6 ar.bx.r3 ar.bx.r4 ar.bx.r5 (by omega) (by omega) (by omega) underlying38 rfl (by kernel_rfl) (by simp[Value.oneCell']) rfl (by kernel_rfl) (by kernel_rfl) rfl rfl ?_;intro w' h3 h4 h5 af;refine⟨?_,λh=>by cases h⟩;have cp:=gn w' ((e6.mono λb _ E=>E.1).trans (af.mono λb _ E=>E.2));have mq:=HJ.be.size;have ct:Bw w w':=ar.be.trans (z8 (af.mono λb _(E:b<w.heap.size)=>⟨by omega,by omega,by omega⟩) ar.be.size)
       gi_wp2
       exact⟨cp.1,rfl,ct.size,(zCa,false,2),⟨_,_,_,_,_,h3,h4,h5,zO.nil _ _,⟨_,_,rfl,Names.nil,Names.nil⟩,⟨_,_,rfl,Names.nil,Names.nil⟩,ct⟩,λh=>by rw[gr h,zFc HU HV.out,if_neg (by rw[jr.out];simp),ja.out,if_pos dh]⟩
      rw[dh];have kr:=hid (show D3.2=0 from by simpa using dh);clear dh
      gi_step
      gi_step
      gi_step
      gi_step
      have p0:=ar.bx.s.at0;have pl:=ar.bx.s.lt;have q0:=HQ.at0;have ql:=HQ.lt;have nh:w.heap.size<=x.heap.size:=ar.be.size;have k8:=hid (zQT (λb=>b<x.heap.size) _ _ D3.1 s.dom x (la.live.mono λb E=>E.2) ((lj _ ar.be).d.mono λb E=>by have:=df b E;omega) ((lk.on ar.be).mono nh));refine zAu ?_;(go_wp2_with fail);refine k8.mono ?_;rintro e x1 ⟨vl,rfl,nf,E⟩;obtain⟨⟨LL,bt,rfl,j4,j5,j6,j7⟩,mg⟩:=nf;have cz:=hid (show zO (λb=>x.heap.size<=b) x1 (.slice LL ((zDS s.dom D3.1).getD []).length bt) ((zDS s.dom D3.1).getD []) from⟨⟨LL,bt,rfl,j4,j5,j6,j7⟩,mg⟩);obtain⟨LR,gx⟩:∃r,zDS s.dom D3.1=r:=⟨_,rfl⟩;rw[gx]at cz;rw[gx];have k0:=hid gx;have gi:=hid (ar.below E);have dv:=hid (show zA (λb=>¬ES B1 M1 B2 M2 b) W x1 from e6.trans (.of_below E));clear gx j4 j5 j6 j7 mg E p0 pl q0 ql k8 HQ la ar e6
      cases LR with
      |none=>
       (go_wp2_with fail);refine⟨?_,λh=>by cases h⟩;have cp:=gn x1 (dv.mono λb _ E=>E.1)
       gi_wp2
       exact⟨cp.1,cp.2,_,_,gi.out,λh=>by rw[gr h,zFc HU HV.out,if_neg (by rw[jr.out];simp),ja.out,if_neg (by rw[kr.out];simp),k0.out]⟩
      |some cas=>
      (go_wp2_with fail);refine⟨?_,λh=>by cases h⟩
      gi_step
      gi_step
      gi_step
      gi_step
      refine zAu ?_;(go_wp2_with fail);refine⟨?_,λh=>by cases h⟩
      gi_step
      gi_step
      refine wpIn_cond_split rfl (λh9=>by cases h9) (λ_=> ?_)
      gi_step
      gi_step
      gi_step
      gi_step
      have lg:=gi.bx.s;refine zAu ?_;refine zDq rfl 30 (.tmp 5) rfl rfl lg _ underlying30 rfl (by kernel_rfl) ?_;simp only[nr];go_wp2_with(refine zN rfl 30 _ _ rfl rfl rfl (Blk.new _ _ _) rfl (by kernel_rfl) (by simp[Value.oneCell']) ?_;intro x2 l4 md ml);have dx:Bw x1 x2:=(zG x1 _).trans (z8 (md.mono λb _(E:b<x1.heap.size)=>by omega) (by simp));have jo:=hid l4;have gj:=hid (gi.below dx);have ie:=hid (show zA (λb=>¬ES B1 M1 B2 M2 b) W x2 from dv.trans (.of_below dx));(have nz:x1.heap.size+1=x2.heap.size:=by rw[ml];simp);have ik:=hid (cz.live.keep (.of_below dx));have l2:=dv.size;clear lg l4 md ml dx gi dv cz;have p1:=gj.bx.s.at1;have pl:=gj.bx.s.lt;have ki:=hid (zD6.1 bu.p)
      gi_step
      refine zAu ?_;(go_wp2_with fail);refine(zPo x2.heap.size s.auths.length ki.n1 ki.n6 (.slice LL cas.length bt) rfl (x2.alloc (.cells #[.slice LL cas.length bt] 34)) (Blk.new _ _ _)).mono ?_;rintro e x3 ⟨rfl,kc,E⟩;have ee:Bw x2 x3:=(zG x2 _).trans (E.mono (by simp));(have ke:(x2.alloc (.cells #[.slice LL cas.length bt] 34)).heap.size =x2.heap.size+1:=by simp);rw[ke]at kc;rw[ke];have ld:=hid kc;have a7:=hid (jo.below ee jo.lt);have gm:=hid (gj.below ee);have ig:=hid (show zA (λb=>¬ES B1 M1 B2 M2 b) W x3 from ie.trans (.of_below ee));have il:=hid (ik.live.keep (.of_below ee));have n0:=ee.size;clear p1 pl kc E ee ke jo gj ie ik;have c3:=a7.at3;have c4:=a7.at4;have c5:=a7.cell 5;have f3:=a7.frozen 3;have f4:=a7.frozen 4;have f5:=a7.frozen 5;have cl:=a7.lt;(go_wp2_with fail);refine⟨?_,λh=>by cases h⟩;have dn:zA (λb=>b≠x1.heap.size) x3 (((x3.setCell ⟨x1.heap.size,4,none⟩ (.int .i64 sg)).setCell ⟨x1.heap.size,5,none⟩ (.int .i64 nw)).setCell ⟨x1.heap.size,3,none⟩ (.slice (some ⟨x2.heap.size+1,0,none⟩) s.auths.length s.auths.length)):=(((zA.refl _ _).setCell (λ_ h=>h rfl) _).setCell (λ_ h=>h rfl) _).setCell (λ_ h=>h rfl) _;have fg:=hid (show Blk (((x3.setCell ⟨x1.heap.size,4,none⟩ (.int .i64 sg)).setCell ⟨x1.heap.size,5,none⟩ (.int .i64 nw)).setCell ⟨x1.heap.size,3,none⟩ (.slice (some ⟨x2.heap.size+1,0,none⟩) s.auths.length s.auths.length)) x1.heap.size 30 #[.slice DA s.dom.length J,.slice NA s.auths.length N,.slice ZA s.zones.length O,.slice (some ⟨x2.heap.size+1,0,none⟩) s.auths.length s.auths.length,.int .i64 sg,.int .i64 nw] from((a7.set_ 4 _).set_ 5 _).set_ 3 _);have j4:=HJ.bx.r6.lt;have j5:=HJ.bx.p1.lt;have j6:=HJ.bx.p2.lt;have j7:=HJ.bx.f.lt;have g9:=hid (gm.bx.keep (dn.mono λb _ E=>by rcases E with E|E|E|E<;>omega));have ii:=hid (ig.step dn l2);have ds:=hid (gm.be.trans (z8 (dn.mono λb _(E:b<w.heap.size)=>by omega) gm.be.size));have im:=hid (il.keep (dn.mono λb _ E=>by have:=E.1.2;omega));have ck:=hid (ld.keep dn (by omega));have oy:=dn.size;clear c3 c4 c5 f3 f4 f5 cl dn gm ig il ld a7;generalize ((x3.setCell ⟨x1.heap.size,4,none⟩ (.int .i64 sg)).setCell ⟨x1.heap.size,5,none⟩ (.int .i64 nw)).setCell ⟨x1.heap.size,3,none⟩ (.slice (some ⟨x2.heap.size+1,0,none⟩) s.auths.length s.auths.length)=W5 at*
      gi_step
      gi_step
      gi_step
      refine zAu ?_;go_wp2_with(refine zN rfl 38 _ _ rfl rfl rfl (Blk.new _ _ _) rfl (by kernel_rfl) (by simp[Value.oneCell']) ?_;intro W6 l5 mf mm);have br:Bw W5 W6:=(zG W5 _).trans (z8 (mf.mono λb _(E:b<W5.heap.size)=>by omega) (by simp));(have ov:W5.heap.size+1=W6.heap.size:=by rw[mm];simp);have eo:=hid l5;have dt:=hid (g9.below br);have aw:=hid (fg.below br fg.lt);have ew:=hid (ii.trans (.of_below br));have bn:=hid (show Bw w W6 from ds.trans (br.mono ds.size));have c9:=hid (im.live.keep (.of_below br));have jn:=hid (ck.below br ck.lt);have oh:=(zD6.1 bu.p).n6;have ny:w.heap.size<=W5.heap.size:=ds.size;have ff:=hid (zQp (sg:=sg) (nw:=nw) (c:=cas) (lj _ bn) (Z':=λb=>b<W6.heap.size/\b≠W5.heap.size) (λb E=>⟨by have:=df b E;omega,by have:=df b E;omega⟩) (zSL jn ⟨by have:=ck.lt;omega,by have:=ck.lt;omega⟩ (c9.mono λb E=>⟨by have:=E.2;omega,by have:=E.2;omega⟩) (by omega)) lh.1 lh.2);have iq:=hid (zn.mono (k9 _ bn).1 (Z':=λb=>b<W6.heap.size/\b≠W5.heap.size) (λb E=>⟨by have:=df b E;omega,by have:=df b E;omega⟩));have ir:=hid (zn.mono (k9 _ bn).2 (Z':=λb=>b<W6.heap.size/\b≠W5.heap.size) (λb E=>⟨by have:=df b E;omega,by have:=df b E;omega⟩));clear l5 mf mm br g9 fg ii ds im ck;have a0:=dt.a.at0;have al:=dt.a.lt;have c0:=aw.at0;have js:=aw.at1;have jt:=aw.at2;have ju:=aw.at3;have jv:=aw.at4;have jw:=aw.cell 5;have cl:=aw.lt
      gi_step
      refine zAu ?_;(go_wp2_with fail);refine(zIL (λb=>b<W6.heap.size/\b≠W5.heap.size) _ _ _ _ _ a (zAv s sg nw cas) W6 iq ff (λb E=>E.1) dz.1).mono ?_;rintro e W7 ⟨vv,rfl,⟨q1,q2,rfl,eg,eh⟩,E⟩;obtain⟨F1,bf,rfl,-⟩:=eg.form;obtain⟨F2,bg,rfl,-⟩:=eh.form;have jp:=hid (And.intro eg eh);have a5:=hid (eo.below E eo.lt);have hc:=hid (dt.below E);have ix:=hid (aw.below E aw.lt);have ex:=hid (ew.trans (.of_below E));have cv:=hid (show Bw w W7 from bn.trans (E.mono bn.size));have ow:=E.size;have ib:=hid (show zA (λb=>b<W6.heap.size/\b≠W5.heap.size) W6 W7 from .of_below E);have fa:=hid (c9.live.keep (.of_below E));clear a0 al c0 js jt ju jv jw cl eg eh eo dt aw ew;have c3:=a5.at3;have c4:=a5.at4;have c5:=a5.cell 5;have f3:=a5.frozen 3;have f4:=a5.frozen 4;have f5:=a5.frozen 5;have cl:=a5.lt;(go_wp2_with fail);refine⟨?_,λh=>by cases h⟩;have ag:zA (λb=>b≠W5.heap.size) W7 (((W7.setCell ⟨W5.heap.size,3,none⟩ (.int .i64 (zP a (zAv s sg nw cas)).1.kind)).setCell ⟨W5.heap.size,4,none⟩ (.slice F1 (zP a (zAv s sg nw cas)).1.forbids.length bf)).setCell ⟨W5.heap.size,5,none⟩ (.slice F2 (zP a (zAv s sg nw cas)).1.blocks.length bg)):=(((zA.refl _ _).setCell (λ_ h=>h rfl) _).setCell (λ_ h=>h rfl) _).setCell (λ_ h=>h rfl) _;have ep:=hid (show Blk (((W7.setCell ⟨W5.heap.size,3,none⟩ (.int .i64 (zP a (zAv s sg nw cas)).1.kind)).setCell ⟨W5.heap.size,4,none⟩ (.slice F1 (zP a (zAv s sg nw cas)).1.forbids.length bf)).setCell ⟨W5.heap.size,5,none⟩ (.slice F2 (zP a (zAv s sg nw cas)).1.blocks.length bg)) W5.heap.size 38 #[.int .i64 sg,.int .i64 nw,.slice LL cas.length bt,.int .i64 (zP a (zAv s sg nw cas)).1.kind,.slice F1 (zP a (zAv s sg nw cas)).1.forbids.length bf,.slice F2 (zP a (zAv s sg nw cas)).1.blocks.length bg,.int .i64 0,.slice none 0 0,.slice none 0 0] from((a5.set_ 3 _).set_ 4 _).set_ 5 _);have du:=hid (hc.keep (ag.mono λb _ E=>by rcases E with E|E|E|E<;>omega));have bd:=hid (ix.keep ag (by omega));have ey:=hid (ex.step ag (by omega));have cw:=hid (cv.trans (z8 (ag.mono λb _(E:b<w.heap.size)=>by omega) cv.size));have ev:=hid (ib.trans (ag.mono λb _ E=>E.2));have iw:=hid (ff.keep ev);have iu:=hid (zn.keep ir ev);have fb:=hid (fa.keep (ag.mono λb _ E=>by have:=E.1.2;omega));have fi:=hid (And.intro (jp.1.keep (ag.mono λb _ E=>by have E:W6.heap.size<=b:=E;omega)) (jp.2.keep (ag.mono λb _ E=>by have E:W6.heap.size<=b:=E;omega)));have ox:=ag.size;clear c3 c4 c5 f3 f4 f5 cl ag a5 hc ix ex cv fa c9 jp ib ff iq ir ev;generalize ((W7.setCell ⟨W5.heap.size,3,none⟩ (.int .i64 (zP a (zAv s sg nw cas)).1.kind)).setCell ⟨W5.heap.size,4,none⟩ (.slice F1 (zP a (zAv s sg nw cas)).1.forbids.length bf)).setCell ⟨W5.heap.size,5,none⟩ (.slice F2 (zP a (zAv s sg nw cas)).1.blocks.length bg)=W8 at*;have a0:=du.b.at0;have al:=du.b.lt;have c0:=bd.at0;have js:=bd.at1;have jt:=bd.at2;have ju:=bd.at3;have jv:=bd.at4;have jw:=bd.cell 5;have cl:=bd.lt
      gi_step
      gi_step
      gi_step
      refine zAu ?_;(go_wp2_with fail);refine(zIL (λb=>b<W6.heap.size/\b≠W5.heap.size) _ _ _ _ _ b (zAv s sg nw cas) W8 iu iw (λb E=>by have:=E.1;omega) dz.2).mono ?_;rintro e W9 ⟨vv,rfl,⟨r1,r2,rfl,ka,kb⟩,E⟩;obtain⟨G1,gu,rfl,-⟩:=ka.form;obtain⟨G2,gw,rfl,-⟩:=kb.form;have jq:=hid (And.intro ka kb);have a6:=hid (ep.below E ep.lt);have hh:=hid (du.below E);have ez:=hid (ey.trans (.of_below E));have cx:=hid (show Bw w W9 from cw.trans (E.mono cw.size));have fc:=hid (fb.live.keep (.of_below E));have fj:=hid (And.intro (fi.1.live.keep (.of_below E)) (fi.2.live.keep (.of_below E)));have n5:=E.size;clear a0 al c0 js jt ju jv jw cl ka kb ep du bd ey cw fb fi iw iu E;have c6:=a6.cell 6;have c7:=a6.cell 7;have c8:=a6.cell 8;have f6:=a6.frozen 6;have f7:=a6.frozen 7;have f8:=a6.frozen 8;have cl:=a6.lt;(go_wp2_with fail);refine⟨?_,λh=>by cases h⟩;have ag:zA (λb=>b≠W5.heap.size) W9 (((W9.setCell ⟨W5.heap.size,6,none⟩ (.int .i64 (zP b (zAv s sg nw cas)).1.kind)).setCell ⟨W5.heap.size,7,none⟩ (.slice G1 (zP b (zAv s sg nw cas)).1.forbids.length gu)).setCell ⟨W5.heap.size,8,none⟩ (.slice G2 (zP b (zAv s sg nw cas)).1.blocks.length gw)):=(((zA.refl _ _).setCell (λ_ h=>h rfl) _).setCell (λ_ h=>h rfl) _).setCell (λ_ h=>h rfl) _;have jd:=hid (show Blk (((W9.setCell ⟨W5.heap.size,6,none⟩ (.int .i64 (zP b (zAv s sg nw cas)).1.kind)).setCell ⟨W5.heap.size,7,none⟩ (.slice G1 (zP b (zAv s sg nw cas)).1.forbids.length gu)).setCell ⟨W5.heap.size,8,none⟩ (.slice G2 (zP b (zAv s sg nw cas)).1.blocks.length gw)) W5.heap.size 38 #[.int .i64 sg,.int .i64 nw,.slice LL cas.length bt,.int .i64 (zP a (zAv s sg nw cas)).1.kind,.slice F1 (zP a (zAv s sg nw cas)).1.forbids.length bf,.slice F2 (zP a (zAv s sg nw cas)).1.blocks.length bg,.int .i64 (zP b (zAv s sg nw cas)).1.kind,.slice G1 (zP b (zAv s sg nw cas)).1.forbids.length gu,.slice G2 (zP b (zAv s sg nw cas)).1.blocks.length gw] from((a6.set_ 6 _).set_ 7 _).set_ 8 _);have cy:=hid (hh.keep (ag.mono λb _ E=>by rcases E with E|E|E|E<;>omega));have je:=hid (ez.step ag (by omega));have en:=hid (cx.trans (z8 (ag.mono λb _(E:b<w.heap.size)=>by omega) cx.size));have jg:=hid (fc.keep (ag.mono λb _ E=>by have:=E.1.1.1.2;omega));have fh:=hid (And.intro (fj.1.keep (ag.mono λb _ E=>by have E:W6.heap.size<=b:=E.1;omega)) (fj.2.keep (ag.mono λb _ E=>by have E:W6.heap.size<=b:=E.1;omega)));have fk:=hid (And.intro (jq.1.keep (ag.mono λb _ E=>by have E:W8.heap.size<=b:=E;omega)) (jq.2.keep (ag.mono λb _ E=>by have E:W8.heap.size<=b:=E;omega)));have n4:=ag.size;clear c6 c7 c8 f6 f7 f8 cl ag a6 hh ez cx fc fj jq;generalize ((W9.setCell ⟨W5.heap.size,6,none⟩ (.int .i64 (zP b (zAv s sg nw cas)).1.kind)).setCell ⟨W5.heap.size,7,none⟩ (.slice G1 (zP b (zAv s sg nw cas)).1.forbids.length gu)).setCell ⟨W5.heap.size,8,none⟩ (.slice G2 (zP b (zAv s sg nw cas)).1.blocks.length gw)=n8 at*
      gi_step
      gi_step
      gi_step
      refine zAu ?_;refine zL3 (bv:= .bool true) (er:= .int .i64 0) jd cy.r3 cy.r4 cy.r5 (by omega) (by omega) (by omega) underlying38 rfl (by kernel_rfl) (by simp[Value.oneCell']) rfl (by kernel_rfl) (by kernel_rfl) rfl rfl ?_;intro w' h3 h4 h5 af;refine⟨?_,λh=>by cases h⟩;have cp:=gn w' ((je.mono λb _ E=>E.1).trans (af.mono λb _ E=>E.2));have mq:=HJ.be.size;have ct:Bw w w':=en.trans (z8 (af.mono λb _(E:b<w.heap.size)=>⟨by omega,by omega,by omega⟩) en.size);(have oc:w.heap.size+7<=W.heap.size:=by omega);(have f9:∀b,W.heap.size<=b->b≠w.heap.size+1+1+1/\b≠w.heap.size+1+1+1+1/\b≠w.heap.size+1+1+1+1+1:=λb E=>⟨by omega,by omega,by omega⟩);(have m8:W.heap.size<=x.heap.size:=by omega);(have lz:W.heap.size<=W6.heap.size:=by omega);(have l1:W.heap.size<=W8.heap.size:=by omega);(have m7:=(jg.keep (af.mono λb _ E=>f9 b (Nat.le_trans m8 E.1.1.1.1.1))).mono (Z':=λb=>w.heap.size<=b) λb E=>by have:=E.1.1.1.1.1;omega);(have co:=(fh.1.keep (af.mono λb _ E=>f9 b (Nat.le_trans lz E.1))).mono (Z':=λb=>w.heap.size<=b) λb E=>by have:=E.1;omega);(have m3:=(fh.2.keep (af.mono λb _ E=>f9 b (Nat.le_trans lz E.1))).mono (Z':=λb=>w.heap.size<=b) λb E=>by have:=E.1;omega);(have bh:=(fk.1.keep (af.mono λb _ E=>f9 b (Nat.le_trans l1 E))).mono (Z':=λb=>w.heap.size<=b) λb E=>by have E:W8.heap.size<=b:=E;omega);have bi:=(fk.2.keep (af.mono λb _ E=>f9 b (Nat.le_trans l1 E))).mono (Z':=λb=>w.heap.size<=b) λb E=>by have E:W8.heap.size<=b:=E;omega
      gi_wp2
      exact⟨cp.1,rfl,ct.size,(⟨sg,nw,cas,(zP a (zAv s sg nw cas)).1,(zP b (zAv s sg nw cas)).1⟩,true,0),⟨_,_,_,_,_,h3,h4,h5,m7,⟨_,_,rfl,co,m3⟩,⟨_,_,rfl,bh,bi⟩,ct⟩,λh=>by rw[gr h,zFc HU HV.out,if_neg (by rw[jr.out];simp),ja.out,if_neg (by rw[kr.out];simp),k0.out]⟩
     ·rintro L a1 x j o ⟨c,p,f,u1,u2,u3,u26,Q,l8,rfl,rfl,h⟩ ho hf hd;have hj:j<12:=(Array.getElem?_eq_some_iff.1 ho).1;(have hj:j=0\/j=1\/j=2\/j=3\/j=4\/j=5\/j=6\/j=7\/j=8\/j=9\/j=10\/j=11:=by omega);rcases hj with rfl|rfl|rfl|rfl|rfl|rfl|rfl|rfl|rfl|rfl|rfl|rfl
      ·cases hf
      ·cases hf
      ·cases hf
      ·cases hf
      ·(have ga:c=0:=by have:=of_decide_eq_false hf;omega);subst ga
       have ef:f=false:=by
        cases f with
        |false=>rfl
        |true=>exact absurd (h.fp rfl).2 (by omega)
       subst ef;injection ho with ho;subst ho;refine⟨rfl,λK hK=> ?_⟩;have HR:=hid h;clear h hd;subst hA;simp only[nr];go_wp2_with fail
       have ad:=HR.sm.differ P1 (ah.bx.p1.keep HR.k ⟨bw.1,bw.2⟩) (λe=>by
        rcases e with e|⟨e,e2⟩
        ·rcases e with e|e|e|e
         ·exact bw.1 e
         ·exact bw.2 e
         ·exact aj.2.1.2.2.1 e
         exact aj.2.1.2.2.2.1 e
        have:=(HR.bx e).2.1;have:=ah.bx.p1.lt;omega) HR.h1 HR.h2
       dsimp only at ad;rw[show zER s.dom (eC U.2.2.err D1 D2 D3 0) U.1 V.1=D1 from HD.1]at ad;refine ad.mono ?_;rintro e x' ⟨A,k,rfl,hn,hm,hk⟩;exact hK _ _ ⟨1,p,false,.agg #[.slice A D1.1.length k],u2,u3,u26,Q,by omega,rfl,(by simp only[nr]),HR.call0 dr hm hk hn⟩ trivial
      ·cases hf
      ·cases hf
      ·cases hf
      ·injection ho with ho;subst ho;(have ga:c=1:=by have:=of_decide_eq_false hf;have:=of_decide_eq_true (hd ⟨4,.chain⟩ (by simp) rfl);omega);subst ga
       have ef:f=false:=by
        cases f with
        |false=>rfl
        |true=>exact absurd (h.fp rfl).2 (by omega)
       subst ef;refine⟨rfl,λK hK=> ?_⟩;have HR:=hid h;clear h hd;subst hA;simp only[nr];go_wp2_with fail
       have ad:=HR.sm.differ P1 (ah.bx.p1.keep HR.k ⟨bw.1,bw.2⟩) (λe=>by
        rcases e with e|⟨e,e2⟩
        ·rcases e with e|e|e|e
         ·exact bw.1 e
         ·exact bw.2 e
         ·exact aj.2.1.2.2.1 e
         exact aj.2.1.2.2.2.1 e
        have:=(HR.bx e).2.1;have:=ah.bx.p1.lt;omega) HR.h3 HR.h4
       dsimp only at ad;rw[show zER s.dom (eC U.2.2.err D1 D2 D3 1) U.2.1 V.2.1=D2 from HD.2.1]at ad;refine ad.mono ?_;rintro e x' ⟨A,k,rfl,hn,hm,hk⟩;exact hK _ _ ⟨2,p,false,u1,.agg #[.slice A D2.1.length k],u3,u26,Q,by omega,rfl,(by simp only[nr]),HR.call1 dr hm hk hn⟩ trivial
      ·injection ho with ho;subst ho;(have ga:c=2:=by have:=of_decide_eq_false hf;have:=of_decide_eq_true (hd ⟨8,.chain⟩ (by simp) rfl);omega);subst ga
       have ef:f=false:=by
        cases f with
        |false=>rfl
        |true=>exact absurd (h.fp rfl).2 (by omega)
       subst ef;obtain⟨A5,k5,rfl,m5⟩:=h.n1 (by omega);obtain⟨A6,k6,rfl,m6⟩:=h.n2 (by omega);have ip:=hid (And.intro m5 m6);clear m5 m6;refine⟨rfl,λK hK=> ?_⟩;have HR:=hid h;clear h hd;subst hA;simp only[nr];(go_wp2_with fail);have ad:=HR.sm.union ip.1 ip.2;dsimp only at ad;rw[show zAt s.dom (eC U.2.2.err D1 D2 D3 2) D1.1 D2.1=D3 from HD.2.2]at ad;refine ad.mono ?_;rintro e x' ⟨A,k,rfl,hn,hm,hk⟩;exact hK _ _ ⟨3,p,false,.agg #[.slice A5 D1.1.length k5],.agg #[.slice A6 D2.1.length k6],.agg #[.slice A D3.1.length k],u26,Q,by omega,rfl,(by simp only[nr]),HR.call2 dr hm hk hn⟩ trivial
      ·have ni:p=false:=hf;subst ni
       have ef:f=false:=by
        cases f with
        |false=>rfl
        |true=>exact absurd (h.fp rfl).1 (by simp)
       subst ef;injection ho with ho;subst ho;refine⟨rfl,λK hK=> ?_⟩;have HR:=hid h;clear h hd;subst hA;simp only[nr];(go_wp2_with fail);exact hK _ _ ⟨c,true,false,u1,u2,u3,.pointer (some ⟨x.heap.size,0,none⟩),x.heap.size,l8,rfl,(by simp only[nr]),HR.alloc rfl⟩ trivial
      have nc:f=false:=hf;subst nc;injection ho with ho;subst ho;have nj:p=true:=hd ⟨10,.data⟩ (by simp) rfl;have l7:=of_decide_eq_true (hd ⟨9,.data⟩ (by simp) rfl);(obtain rfl:c=3:=by omega);subst nj;obtain⟨A7,k7,rfl,-⟩:=h.n3 (by omega);obtain⟨rfl,hQ,u,E,-⟩:=h.bx rfl;have c0:=E.at0;have cf:=E.frozen 0;have cl:=E.lt;clear E;refine⟨rfl,λK hK=> ?_⟩;have HR:=hid h;clear h hd;subst hA;simp only[nr];(go_wp2_with fail);exact hK _ _ ⟨3,true,true,u1,u2,.agg #[.slice A7 D3.1.length k7],.pointer (some ⟨Q,0,none⟩),Q,by omega,rfl,(by simp only[nr]),HR.store dr⟩ trivial
     exact⟨0,false,false,undef,undef,undef,undef,0,by omega,rfl,(by subst hA;simp only[nr]),lc 0⟩
    case done=>
     rintro D xs W hD rfl ⟨X,Y,hJ,hs⟩ hK;rw[zE5 (Nat.le_refl _)]at hs;have HS:=hid (hs rfl);rw[List.drop_length]at HS;have hw:=hJ.be.size;have H6:=hJ.bx.r6;have H3:=hJ.bx.r3;have H4:=hJ.bx.r4;have H5:=hJ.bx.r5;have mv:=hid hJ.be;have HK:=hid hK;clear hs hJ hK;subst co;go_wp2_with(refine zL3 (bv:= .bool false) (er:= .int .i64 0) H6 H3 H4 H5 (by omega) (by omega) (by omega) underlying38 rfl (by kernel_rfl) (by simp[Value.oneCell']) rfl (by kernel_rfl) (by kernel_rfl) rfl rfl ?_;intro w' h3 h4 h5 af);have m4:=(Array.getElem?_eq_some_iff.1 HK).1
     exact zP1 (x:=dy) (R:=(zCa,false,0)) (by
      rw[bo.out,if_neg (by rw[gq.out];simp),if_neg (by rw[zEo,zBt.2 bu.out];simp),if_neg (by rw[zEo,zBt.2 d7.out];simp),if_neg (by rw[cm.out];omega),cm.out,HS.out];rfl)
      ((af.block D m4 ⟨by omega,by omega,by omega⟩).trans HK) hD (by omega) (by have:=af.size;omega)
      ⟨_,_,_,_,_,h3,h4,h5,zO.nil _ _,⟨_,_,rfl,Names.nil,Names.nil⟩,⟨_,_,rfl,Names.nil,Names.nil⟩,mv.trans (z8 (af.mono λb _(E:b<w.heap.size)=>⟨by omega,by omega,by omega⟩) hw)⟩ rfl rfl rfl rfl
    case stop=>
     rintro D c bk W hD ⟨k,hk,mj⟩ ⟨rfl,hw,R,hR,hs⟩ hK;have HS:=hid (hs (by rw[mj,zE5 hk]));have HR:=hid hR;have HK:=hid hK;clear hs hR hK;subst co;refine wpIn_wide.2 ?_;go_wp2_with fail
     exact zP1 (x:=dy) (R:=R) (by
      rw[bo.out,if_neg (by rw[gq.out];simp),if_neg (by rw[zEo,zBt.2 bu.out];simp),if_neg (by rw[zEo,zBt.2 d7.out];simp),if_neg (by rw[cm.out];omega),cm.out,HS.out])
      HK hD (by omega) hw HR rfl rfl rfl rfl
   ·rintro L a1 x j o ⟨b2,b3,b4,b7,b8,b9,ap,aq,ak,ao,a8,a9,au,ba,bb,av,az,a2,rfl,rfl,ll⟩ ho hf hd;have HF:=hid ll;obtain⟨E,hx,hy,hp,hq,n1,n2,n3,k1,k2⟩:=ll;clear d8 gs cm cj hi io jh ji db ea HK bz b1 bp b5 b6 ca cb bo ng m0 i3;have hj:j<14:=(Array.getElem?_eq_some_iff.1 ho).1;(have hj:j=0\/j=1\/j=2\/j=3\/j=4\/j=5\/j=6\/j=7\/j=8\/j=9\/j=10\/j=11\/j=12\/j=13:=by omega);rcases hj with rfl|rfl|rfl|rfl|rfl|rfl|rfl|rfl|rfl|rfl|rfl|rfl|rfl|rfl
    ·cases hf
    ·cases hf
    ·have hf:b2=false:=hf;subst hf;injection ho with ho;subst ho;refine⟨rfl,λK hK=> ?_⟩;clear E hx hy hp hq n1 n2 n3 k1 k2 hd;subst hA;simp only[nr];(go_wp2_with fail);obtain⟨E,hx,hy,hp,hq,n1,n2,n3,k1,k2⟩:=HF.out;exact hK _ _ ⟨true,b3,b4,b7,b8,b9,ap,aq,ak,ao,.map (some x.heap.size),a9,au,ba,bb,av,az,a2,rfl,(by simp only[nr]),E.alloc E.size _,hx.setM E.size,hy.alloc _,hp.alloc _,hq.alloc _,λ_ e=>(hy.newM e).symm,n2,n3,k1,k2⟩ trivial
    ·have hf:b3=false:=hf;subst hf;injection ho with ho;subst ho;have e2:b2=true:=hd ⟨2,.data⟩ (by simp) rfl;subst e2;obtain⟨M,rfl,-,-⟩:=hx.m rfl;refine⟨rfl,λK hK=> ?_⟩;clear E hx hy hp hq n1 n2 n3 k1 k2 hd;subst hA;simp only[nr];(go_wp2_with fail);obtain⟨E,hx,hy,hp,hq,n1,n2,n3,k1,k2⟩:=HF.out;exact hK _ _ ⟨true,true,b4,b7,b8,b9,ap,aq,ak,ao,.map (some M),.agg #[.slice LA a.length G,.slice DA s.dom.length J,.slice NA s.auths.length N,.slice ZA s.zones.length O,.slice CA s.cases.length T,.int .i64 s.signed,.int .i64 s.now,.map (some M),.int .i64 0],au,ba,bb,av,az,a2,rfl,(by simp only[nr]),E,hx.setD,hy,hp,hq,n1,n2,n3,k1,k2⟩ trivial
    ·have hf:b4=false:=hf;subst hf;injection ho with ho;subst ho;have e3:b3=true:=hd ⟨3,.data⟩ (by simp) rfl;subst e3;obtain⟨e2,rfl⟩:=hx.d rfl;subst e2;obtain⟨M,rfl,-,-⟩:=hx.m rfl;(have fw:ak=false:=by cases ak with|false=>rfl|true=>exact absurd (k1 rfl rfl) (by simp));subst fw;refine⟨rfl,λK hK=> ?_⟩;clear E hx hy hp hq n1 n2 n3 k1 k2 hd;subst hA;simp only[nr];(go_wp2_with fail);obtain⟨E,hx,hy,hp,hq,n1,n2,n3,k1,k2⟩:=HF.out;exact hK _ _ ⟨true,true,true,b7,b8,b9,ap,aq,false,ao,.map (some M),.agg #[.slice LA a.length G,.slice DA s.dom.length J,.slice NA s.auths.length N,.slice ZA s.zones.length O,.slice CA s.cases.length T,.int .i64 s.signed,.int .i64 s.now,.map (some M),.int .i64 0],.pointer (some ⟨x.heap.size,0,none⟩),ba,bb,av,az,a2,rfl,(by simp only[nr]),E.alloc E.size _,hx.setB E.size,hy.alloc _,(hp.alloc _).anyT,hq.alloc _,n1,λ_ e=>(hy.newB e).symm,n3,λ_ _=>rfl,k2⟩ trivial
    ·cases hf
    ·cases hf
    ·have hf:b7=false:=hf;subst hf;injection ho with ho;subst ho;refine⟨rfl,λK hK=> ?_⟩;clear E hx hy hp hq n1 n2 n3 k1 k2 hd;subst hA;simp only[nr];(go_wp2_with fail);obtain⟨E,hx,hy,hp,hq,n1,n2,n3,k1,k2⟩:=HF.out;exact hK _ _ ⟨b2,b3,b4,true,b8,b9,ap,aq,ak,ao,a8,a9,au,.map (some x.heap.size),bb,av,az,a2,rfl,(by simp only[nr]),E.alloc E.size _,hx.alloc _,hy.setM E.size,hp.alloc _,hq.alloc _,λe _=>hx.newM e,n2,n3,k1,k2⟩ trivial
    ·have hf:b8=false:=hf;subst hf;injection ho with ho;subst ho;have e7:b7=true:=hd ⟨7,.data⟩ (by simp) rfl;subst e7;obtain⟨M,rfl,-,-⟩:=hy.m rfl;refine⟨rfl,λK hK=> ?_⟩;clear E hx hy hp hq n1 n2 n3 k1 k2 hd;subst hA;simp only[nr];(go_wp2_with fail);obtain⟨E,hx,hy,hp,hq,n1,n2,n3,k1,k2⟩:=HF.out;exact hK _ _ ⟨b2,b3,b4,true,true,b9,ap,aq,ak,ao,a8,a9,au,.map (some M),.agg #[.slice LB b.length H,.slice DA s.dom.length J,.slice NA s.auths.length N,.slice ZA s.zones.length O,.slice CA s.cases.length T,.int .i64 s.signed,.int .i64 s.now,.map (some M),.int .i64 0],av,az,a2,rfl,(by simp only[nr]),E,hx,hy.setD,hp,hq,n1,n2,n3,k1,k2⟩ trivial
    ·have hf:b9=false:=hf;subst hf;injection ho with ho;subst ho;have e8:b8=true:=hd ⟨8,.data⟩ (by simp) rfl;subst e8;obtain⟨e2,rfl⟩:=hy.d rfl;subst e2;obtain⟨M,rfl,-,-⟩:=hy.m rfl;(have fw:ao=false:=by cases ao with|false=>rfl|true=>exact absurd (k2 rfl rfl) (by simp));subst fw;refine⟨rfl,λK hK=> ?_⟩;clear E hx hy hp hq n1 n2 n3 k1 k2 hd;subst hA;simp only[nr];(go_wp2_with fail);obtain⟨E,hx,hy,hp,hq,n1,n2,n3,k1,k2⟩:=HF.out;exact hK _ _ ⟨b2,b3,b4,true,true,true,ap,aq,ak,false,a8,a9,au,.map (some M),.agg #[.slice LB b.length H,.slice DA s.dom.length J,.slice NA s.auths.length N,.slice ZA s.zones.length O,.slice CA s.cases.length T,.int .i64 s.signed,.int .i64 s.now,.map (some M),.int .i64 0],.pointer (some ⟨x.heap.size,0,none⟩),az,a2,rfl,(by simp only[nr]),E.alloc E.size _,hx.alloc _,hy.setB E.size,hp.alloc _,(hq.alloc _).anyT,n1,λe _=>hx.newB e,n3,k1,λ_ _=>rfl⟩ trivial
    ·have hf:ap=false:=hf;subst hf;injection ho with ho;subst ho;refine⟨rfl,λK hK=> ?_⟩;clear E hx hy hp hq n1 n2 n3 k1 k2 hd;subst hA;simp only[nr];(go_wp2_with fail);obtain⟨E,hx,hy,hp,hq,n1,n2,n3,k1,k2⟩:=HF.out;exact hK _ _ ⟨b2,b3,b4,b7,b8,b9,true,aq,ak,ao,a8,a9,au,ba,bb,av,.pointer (some ⟨x.heap.size,0,none⟩),a2,rfl,(by simp only[nr]),E.alloc E.size _,hx.alloc _,hy.alloc _,hp.setB E.size,hq.alloc _,n1,n2,λ_ e=>(hq.newB e).symm,k1,k2⟩ trivial
    ·have hf:aq=false:=hf;subst hf;injection ho with ho;subst ho;refine⟨rfl,λK hK=> ?_⟩;clear E hx hy hp hq n1 n2 n3 k1 k2 hd;subst hA;simp only[nr];(go_wp2_with fail);obtain⟨E,hx,hy,hp,hq,n1,n2,n3,k1,k2⟩:=HF.out;exact hK _ _ ⟨b2,b3,b4,b7,b8,b9,ap,true,ak,ao,a8,a9,au,ba,bb,av,az,.pointer (some ⟨x.heap.size,0,none⟩),rfl,(by simp only[nr]),E.alloc E.size _,hx.alloc _,hy.alloc _,hp.alloc _,hq.setB E.size,n1,n2,λe _=>hp.newB e,k1,k2⟩ trivial
    ·have hf:ak=false:=hf;subst hf;injection ho with ho;subst ho;have fu:ap=true:=hd ⟨10,.data⟩ (by simp) rfl;subst fu;have e4:b4=true:=hd ⟨4,.data⟩ (by simp) rfl;subst e4;obtain⟨P,rfl,bj,ai⟩:=hp.pick;obtain⟨-,B,rfl,bh,bi⟩:=hx.b rfl;have c0:=ai.at0;have f0:=ai.frozen 0;have l0:=ai.lt;refine⟨rfl,λK hK=> ?_⟩;clear E hx hy hp hq n1 n2 n3 k1 k2 hd;subst hA;simp only[nr];(go_wp2_with fail);obtain⟨E,hx,hy,hp,hq,n1,n2,n3,k1,k2⟩:=HF.out;exact hK _ _ ⟨b2,b3,true,b7,b8,b9,true,aq,true,ao,a8,a9,.pointer (some ⟨B,0,none⟩),ba,bb,av,.pointer (some ⟨P,0,none⟩),a2,rfl,(by simp only[nr]),E.setCell (p:=⟨P,0,none⟩) bj _,hx.store ai,hy.store ai,zDB.setF ai bj,hq.far (λe=>(n3 rfl e).symm),n1,n2,n3,λ_ _=>rfl,k2⟩ trivial
    have hf:ao=false:=hf;subst hf;injection ho with ho;subst ho;have fv:aq=true:=hd ⟨11,.data⟩ (by simp) rfl;subst fv;have e9:b9=true:=hd ⟨9,.data⟩ (by simp) rfl;subst e9;obtain⟨P,rfl,bj,ai⟩:=hq.pick;obtain⟨-,B,rfl,bh,bi⟩:=hy.b rfl;have c0:=ai.at0;have f0:=ai.frozen 0;have l0:=ai.lt;refine⟨rfl,λK hK=> ?_⟩;clear E hx hy hp hq n1 n2 n3 k1 k2 hd;subst hA;simp only[nr];(go_wp2_with fail);obtain⟨E,hx,hy,hp,hq,n1,n2,n3,k1,k2⟩:=HF.out;exact hK _ _ ⟨b2,b3,b4,b7,b8,true,ap,true,ak,true,a8,a9,au,ba,bb,.pointer (some ⟨B,0,none⟩),az,.pointer (some ⟨P,0,none⟩),rfl,(by simp only[nr]),E.setCell (p:=⟨P,0,none⟩) bj _,hx.store ai,hy.store ai,hp.far (λe=>n3 e rfl),zDB.setF ai bj,n1,n2,n3,k1,λ_ _=>rfl⟩ trivial
   exact⟨false,false,false,false,false,false,false,false,false,false,undef,undef,undef,undef,undef,undef,undef,undef,rfl,(by subst hA;simp only[nr]),lm,⟨λe=>absurd e (by simp),λe=>absurd e (by simp),λe=>absurd e (by simp)⟩,⟨λe=>absurd e (by simp),λe=>absurd e (by simp),λe=>absurd e (by simp)⟩,⟨λe=>absurd e (by simp),λe=>absurd e (by simp)⟩,⟨λe=>absurd e (by simp),λe=>absurd e (by simp)⟩,λe=>absurd e (by simp),λe=>absurd e (by simp),λe=>absurd e (by simp),λe=>absurd e (by simp),λe=>absurd e (by simp)⟩
  have i3:(40:Int)<(ys.length:Int):=by omega
  have H6:=cb.below I cb.lt;have H3:=b5.below I b5.lt;have H4:=b6.below I b6.lt;have H5:=ca.below I ca.lt;go_wp2_with(refine zL3 (bv:= .bool false) (er:= .int .i64 2) H6 H3 H4 H5 (by omega) (by omega) (by omega) underlying38 rfl (by kernel_rfl) (by simp[Value.oneCell']) rfl (by kernel_rfl) (by kernel_rfl) rfl rfl ?_;intro w' h3 h4 h5 af)
  exact zKY (x:=dy) (by
   rw[bo.out,if_neg (by rw[gq.out];simp),if_neg (by rw[zEo,zBt.2 bu.out];simp),if_neg (by rw[zEo,zBt.2 d7.out];simp),if_pos (by rw[cm.out];omega)]) rfl rfl rfl rfl h3 h4 h5 (cj _ _ I af)
end
end Go.Proofs.YtommaegelgilnaaGreatDoor
