/- Lemmas. -/
import Derived.Test.YtommaegelgilnaaGreatDoorM17
import Derived.Test.YtommaegelgilnaaGreatDoorM18
import Derived.StillTailTactics
set_option linter.all false
namespace Go.Proofs.YtommaegelgilnaaGreatDoor
open Go.RowKit Go.Proofs.Tryz
set_option maxHeartbeats 4000000
set_option maxRecDepth 100000
variable {B M base g k kb koff n:Nat}{F Z:Nat->Prop}{W w w1 wr:World}{all:List zB}{e:TypeId}{i k0 x:Int}{o:Obj}{od q:List Int}{v vq:Value}{xs:List Value}
def lastOf(l:List Int):Int:=l.getD (l.length-1) 0
theorem zOd(a b:Int)(l:List Int):lastOf (a::b::l)=lastOf (b::l):=by
 unfold lastOf;simp[List.getD_eq_getElem?_getD]
theorem zHp:∀(last:Int)(ss ks:List Int)(s k:Int),ss.length=ks.length->
  zX last (ss++[s]) (ks++[k])=if k=lastOf (last::(zX last ss ks).2)then zX last ss ks else((zX last ss ks).1++[s],(zX last ss ks).2++[k])
 |last,[],[],s,k,_=>by
  simp only[List.nil_append,zX,lastOf];simp
 |last,a::ss,b::ks,s,k,h=>by
  have c:ss.length=ks.length:=by simpa using h
  have e:∀(x:List Int)(y:List Int),zX last (a::x) (b::y)=if b=last then zX last x y else(a::(zX b x y).1,b::(zX b x y).2):=λx y=>by rw[zX]
  rw[List.cons_append,List.cons_append,e,e];by_cases d:b=last
  ·simp only[if_pos d];exact zHp last ss ks s k c
  simp only[if_neg d];rw[zHp b ss ks s k c,zOd];split<;>simp
 | _,[],_::_,_,_,h=>by simp at h
 | _,_::_,[],_,_,h=>by simp at h
theorem zPs{a kids:List Int}(h:a.length=kids.length)(b:k<kids.length)(last:Int):
  zX last (a.take (k+1)) (kids.take (k+1))=if kids.getD k 0=lastOf (last::(zX last (a.take k) (kids.take k)).2)then zX last (a.take k) (kids.take k)
   else((zX last (a.take k) (kids.take k)).1++[a.getD k 0],(zX last (a.take k) (kids.take k)).2++[kids.getD k 0]):=by
 rw[List.take_succ_eq_append_getElem b,List.take_succ_eq_append_getElem (by omega),zHp _ _ _ _ _ (by simp[h])];simp[List.getD_eq_getElem?_getD,List.getElem?_eq_getElem b,List.getElem?_eq_getElem (show k<a.length by omega)]
theorem zE6:∀(last:Int)(ss ks:List Int),(zX last ss ks).2.length <=ks.length
 |last,s::ss,k::ks=>by
  unfold zX;split
  ·have:=zE6 last ss ks;simp;omega
  have:=zE6 k ss ks;simp;omega
 | _,[],_=>by simp[zX]
 | _,_::_,[]=>by simp[zX]
theorem zHq:∀(last:Int)(ss ks:List Int),∀k∈(zX last ss ks).1,k∈ss
 |last,s::ss,k::ks,x,a=>by
  unfold zX at a;split at a
  ·exact List.mem_cons_of_mem _ (zHq last ss ks x a)
  rcases List.mem_cons.1 a with rfl|a
  ·simp
  exact List.mem_cons_of_mem _ (zHq k ss ks x a)
 | _,[],_,_,h=>absurd h (by simp[zX])
 | _,_::_,[],_,h=>absurd h (by simp[zX])
theorem zPt(a kids:List Int)(b:a≠[])(c:kids≠[]):zX (kids.getD 0 0) (a.drop 1) (kids.drop 1)=zX (kids.getD 0 0) a kids:=by
 cases a with
 |nil=>exact absurd rfl b
 |cons s ss=>
 cases kids with
 |nil=>exact absurd rfl c
 |cons k ks=>simp only[List.drop_succ_cons,List.drop_zero,List.getD_cons_zero];rw[zJ9]
theorem zHr{xs:List Int}(h:w.ownsRow base e 1 v n (xs.map (.int .i64)))(k:∀x∈xs,I64 x)(m:xs.length*8<=140737488355328):zO (λb=>v.ownBlock=some b) w v xs:=by
 have o:xs.length=n:=by have:=h.1;simpa using this
 subst o;obtain⟨A,a,rfl,f,g,i⟩:=Row.of_own h (by omega);refine⟨⟨A,a,rfl,f,by simpa[maxLen]using g,m,λc=> ?_⟩,k⟩;obtain⟨b,d,rfl,_,j⟩:=i c;exact⟨b,d,rfl,rfl,j⟩
def zPP(w:World)(M:Nat)(F Z:Nat->Prop)(r:Int × List zB)(e:Ending)(w':World):Prop:=
 e= .returned (.int .i64 r.1)/\(∃F' Z',MkS w' M r.2 F' Z'/\(∀b,F' b->F b\/w.heap.size<=b)/\∀b,Z' b->Z b\/w.heap.size<=b)/\zA (λb=>¬F b) w w'
theorem zR1{w wr w':World}{F Z Zn:Nat->Prop}{r:Int × List zB}{e:Ending}(c:Bw w wr)(j:∀b,Zn b->w.heap.size<=b)(h:zC3 wr M F (λb=>Z b\/Zn b) r e w'):zPP w M F Z r e w':=by
 obtain⟨he,⟨d,f,g⟩,i⟩:=h;exact⟨he,⟨d,_,f,λx a=>(g x a).imp id (λh=>Nat.le_trans c.size h),λx a=>a.imp id (j x)⟩,(zA.of_below c).trans i⟩
def zB1(base:Nat)(wr:World)(kb koff:Nat)(vq:Value)(k0:Int)(q:List Int):Prop:=
 (q=[]/\vq= .slice (some ⟨kb,koff,none⟩) 1 1)\/(q≠[]/\wr.ownsRow base 3 1 vq (q.length+1) ((k0::q).map (.int .i64)))
theorem zB1.open_(h:zB1 base wr kb koff vq k0 q)(e:wr.cell? ⟨kb,koff,none⟩=some (.int .i64 k0)):
  ∃d b a,vq= .slice (some ⟨d,b,none⟩) (q.length+1) a/\q.length+1<=a/\wr.cell? ⟨d,b+q.length,none⟩=some (.int .i64 (lastOf (k0::q))):=by
 rcases h with⟨rfl,rfl⟩|⟨_,h⟩
 ·exact⟨kb,koff,1,rfl,Nat.le_refl _,by simpa[lastOf]using e⟩
 obtain⟨g,c,rfl⟩:=zBc h
 have f:=h.cells (g:=g) rfl q.length (.int .i64 (lastOf (k0::q))) (by
  unfold lastOf
  rw[List.getElem?_map,List.length_cons,Nat.add_sub_cancel,List.getD_eq_getElem?_getD,List.getElem?_eq_getElem (by simp)];rfl)
 refine⟨g,0,c,rfl,?_,by rwa[show(⟨g,0,none⟩:Addr).add q.length=⟨g,0+q.length,none⟩ from by unfold Addr.add;split<;>simp_all]at f⟩;rcases h.2 with⟨hv,_⟩|⟨g',cap',cur,hv,_,_,hle,_⟩
 ·cases hv
 injection hv with _ _ hv;omega
def zEX(q:List Int)(vq:Value):Option Nat:=if q=[]then none else vq.ownBlock
theorem zDz(h:zEX q vq=some k):q≠[]/\vq.ownBlock=some k:=by
 unfold zEX at h;split at h
 ·cases h
 rename_i hq;exact⟨hq,h⟩
section kidsAre
variable {base kb koff:Nat} {w w':World} {vq:Value} {k0:Int} {q:List Int}
theorem zB1.keep{Z:zD}(h:zB1 base w kb koff vq k0 q)(b:zA Z w w')(c:∀k,q≠[]->vq.ownBlock=some k->Z k):zB1 base w' kb koff vq k0 q:=
 h.imp id λh=>⟨h.1,zXL h.2 b λk a=>c k h.1 a⟩
theorem zB1.alloc(h:zB1 base w kb koff vq k0 q)(o:Obj):zB1 base (w.alloc o) kb koff vq k0 q:=h.imp id λh=>⟨h.1,h.2.alloc o⟩
theorem zB1.lt'(h:zB1 base w kb koff vq k0 q)(b:q≠[])(a:vq.ownBlock=some k):k<w.heap.size:=by
 rcases h with⟨h,_⟩|⟨_,h⟩
 ·exact absurd h b
 exact(h.lt k a).2
theorem zB1.ge(h:zB1 base w kb koff vq k0 q)(b:q≠[])(a:vq.ownBlock=some k):base<=k:=by
 rcases h with⟨h,_⟩|⟨_,h⟩
 ·exact absurd h b
 exact(h.lt k a).1
theorem zB1.form{q:List Int}(h:zB1 base w kb koff vq k0 (q++[x])):∃g cap,vq= .slice (some ⟨g,0,none⟩) (q.length+1+1) cap:=by
 rcases h with⟨h,_⟩|⟨_,h⟩
 ·simp at h
 rw[List.length_append,List.length_singleton]at h;exact zBc h
end kidsAre
theorem zEd{base w b g m c:Nat}{M:List Int}{o:Oper}{a:Act}{K:Act->World->Prop}{Q:Exit->Act->World->Prop}(h:zB1 base W w b vq k0 M)(E:W.cell? ⟨w,b,none⟩=some (.int .i64 k0))
  (s y:Operand)(B:o.op= .call {callee:= .builtin .append,args:=#[s,y],argTypes:=#[33,33]})(C:a.eval s=vq)(D:a.eval y= .slice (some ⟨g,m,none⟩) 1 c)(F:W.cell? ⟨g,m,none⟩=some (.int .i64 x))(G:M.length<=2000000)(A:base<=W.heap.size)
  (z:∀n w',zB1 base w' w b n k0 (M++[x])->W.grownBy w' (zEX M vq)->(∀k,n.ownBlock=some k->W.heap.size<=k\/(M≠[]/\vq.ownBlock=some k))->K (a.put o.dst n) w'):Oper.wp prog o a W K Q:=by
 have q:∀j u,([.int .i64 x]:List Value)[j]? =some u->W.cell? ⟨g,m+j,none⟩=some u:=λj u i=>by
  cases j with
  |zero=>simp at i;subst i;simpa using F
  |succ j=>simp at i
 rcases h with⟨rfl,rfl⟩|⟨hne,hown⟩
 ·refine zKE s y _ B underlying33 Tryz.eInt C (olds:=[.int .i64 k0]) rfl (λj u i=> ?_) D (news:=[.int .i64 x]) rfl q (by omega) (by unfold maxLen;omega) (by omega) (λn w' d f=>z n w' (Or.inr ⟨by simp,?_⟩) (by unfold zEX;rw[if_pos rfl];exact f) (λk t=>Or.inl (d.lt k t).1))
  ·cases j with
   |zero=>simp at i;subst i;simpa using E
   |succ j=>simp at i
  have:=d;refine⟨by simp,?_⟩;rcases this.2 with⟨_,h⟩|⟨g',cap,cur,e,hg,h⟩
  ·omega
  exact Or.inr ⟨g',cap,cur,e,Nat.le_trans A hg,h⟩
 refine zDR s y _ B underlying33 Tryz.eInt C hown D (news:=[.int .i64 x]) rfl q (by simp[Value.oneCell']) (by unfold maxLen;omega) (by omega) A (λn w' d f v=>z n w' (Or.inr ⟨by simp,?_⟩) (by unfold zEX;rw[if_neg hne];exact f) (λk t=> ?_))
 ·simpa using d
 rcases v with e|e
 ·exact Or.inr ⟨hne,e▸t⟩
 rw[t]at e;injection e with e;exact Or.inl (by omega)
def zNa(w wr:World)(i:Int)(kb koff:Nat)(k0:Int)(m:List Int × List Int)(vc vq:Value):Prop:=
 Blk wr w.heap.size 123 #[.bool false,.int .i64 i,vc,vq]/\wr.ownsRow (w.heap.size+1) 3 1 vc m.1.length (m.1.map (.int .i64))/\zB1 (w.heap.size+1) wr kb koff vq k0 m.2/\(∀b,vc.ownBlock=some b->vq.ownBlock=some b->False)/\Bw w wr/\w.heap.size+1<=wr.heap.size
theorem zPu{t s x:Int}{m M':List Int × List Int}{g j d f:Value}(A:Blk wr w.heap.size 123 #[.bool false,.int .i64 i,g,j])
  (u:wr.ownsRow (w.heap.size+1) 3 1 g m.1.length (m.1.map (.int .i64)))(v:zB1 (w.heap.size+1) wr kb koff j t m.2)(B:Bw w wr)(F:w.heap.size+1<=wr.heap.size)
  (n:zA (λb=>b<wr.heap.size/\g.ownBlock≠some b/\zEX m.2 j≠some b) wr W)(y:W.ownsRow (w.heap.size+1) 3 1 d (m.1.length+1) (m.1.map (.int .i64)++[.int .i64 s]))(z:zB1 (w.heap.size+1) W kb koff f t (m.2++[x]))(E:∀k,d.ownBlock=some k->f.ownBlock=some k->False)(C:M'=(m.1++[s],m.2++[x])):
  ∃(g j:Value),zNa w ((W.setCell ⟨w.heap.size,2,none⟩ d).setCell ⟨w.heap.size,3,none⟩ f) i kb koff t M' g j:=by
 subst C;have o:w.heap.size<wr.heap.size/\g.ownBlock≠some w.heap.size/\zEX m.2 j≠some w.heap.size:=⟨by omega,λh=>by have:=(u.lt _ h).1;omega,λh=>by have c:=zDz h;have:=v.ge c.1 c.2;omega⟩;have a:zA (λb=>b≠w.heap.size) W ((W.setCell ⟨w.heap.size,2,none⟩ d).setCell ⟨w.heap.size,3,none⟩ f):=((zA.refl _ _).setCell (λ_ h=>h rfl) _).setCell (λ_ h=>h rfl) _;refine⟨d,f,(((A.keep n o).set_ 2 d).set_ 3 f),?_,?_,E,?_,?_⟩
 ·have:=zXL y a (λk q e=>by have:=(y.lt k q).1;omega);simpa using this
 ·exact z.keep a (λk q c e=>by have:=z.ge q c;omega)
 ·refine z8 ?_ (Nat.le_refl _);refine(zFb B).trans ((n.mono λb _ D=>⟨by omega,λh=>by have:=(u.lt _ h).1;omega,λh=>by have c:=zDz h;have:=v.ge c.1 c.2;omega⟩).trans (a.mono λb _ D e=>by omega))
 have:=n.size;have:=a.size;omega
theorem zML(M:Nat)(all:List zB)(F Z Zs:Nat->Prop)(i:Int)(vs vk:Value)(a kids:List Int)(w:World)(h:MkS w M all F Z)(hs:zO Zs w vs a)(c:zO Zs w vk kids)(n:∀b,Zs b->¬F b)
  (hi:I64 i)(ac:a.length=kids.length)(bg:kids≠[])(cy:kids.length<=2000000)(ce:all.length<=1000000)(br:zBr w.heap.size w):
  Calls prog 121 #[.pointer (some ⟨M,0,none⟩),.int .i64 i,vs,vk] w (zPP w M F Z (zAb all i a kids)):=by
 have bq:a≠[]:=by intro e;subst e;simp at ac;exact bg (List.eq_nil_of_length_eq_zero ac.symm)
 obtain⟨sb,a7,c8,rfl,dg,de,dd,aj⟩:=hs.open_ bq;obtain⟨kb,koff,co,rfl,df,cz,c9,V⟩:=c.open_ bg;have bf:0<kids.length:=List.length_pos_iff.2 bg;obtain⟨⟨A',c',e1,e2,e3,e4,-⟩,bz⟩:=c;injection e1 with q1 q2 q3;subst q3;clear q1 q2;have h0:=V 0 bf;rw[Nat.add_zero]at h0;have c7:(1:Int)<=(co:Int):=by omega
 have HT:=hid (λ(k:Nat)(c:k<kids.length)=>zPs ac c (kids.getD 0 0));have ct:=hid (λx(hx:x∈(zX (kids.getD 0 0) a kids).1)=>hs.fit x (zHq _ _ _ x hx));have ag:=hid ac;clear ac;go_enter func121,ntmps121
 go_wp2;have b9:=hid (λ(k:Nat)=>zE6 (kids.getD 0 0) (a.take k) (kids.take k));have bm:=hid (show zAb all i a kids=if(zX (kids.getD 0 0) a kids).2=[]then(kids.getD 0 0,all)else zy all ⟨false,i,(zX (kids.getD 0 0) a kids).1,kids.getD 0 0::(zX (kids.getD 0 0) a kids).2⟩ from rfl);have E:=hid aj;have aw:=hid V;have HM:=hid h;have HZ:=hid n;clear aj V h n h0 hs;go_loopw[18] (λix wr=>∃(k:Nat)(R vq:Value),k<=kids.length/\ix= .int .i64 k/\zNa w wr i kb koff (kids.getD 0 0) (zX (kids.getD 0 0) (a.take k) (kids.take k)) R vq) (λix _=>kids.length-(intOf ix).toNat)
 case atStart=>
  refine⟨0,.slice none 0 0,.slice (some ⟨kb,koff,none⟩) 1 1,Nat.zero_le _,rfl,Blk.new w _ _,World.ownsRow_nil _ _ _ _,Or.inl ⟨rfl,rfl⟩,λb N=>by simp[Value.ownBlock]at N,zG w _,by simp⟩
 case round=>
  obtain⟨k,R,vq,c,rfl,P,a0,af,ah,J,bi⟩:=hrel;by_cases b4:k<kids.length
  ·have cl:sb<w.heap.size:=lt_of_cell (E k (by have:=ag.out;omega));have bx:kb<w.heap.size:=lt_of_cell (aw k b4);have cx:=(J.cell (p:=⟨kb,koff+k,none⟩) bx).trans (aw k b4);have cf:=(J.cell (p:=⟨sb,a7+k,none⟩) cl).trans (E k (by have:=ag.out;omega));have ak:=(J.cell (p:=⟨kb,koff,none⟩) bx).trans (aw 0 bf);obtain⟨T,f,d,a6,ck,ai⟩:=af.open_ ak;have dc:=lt_of_cell ai;have b2:=P.at2;have b3:=P.at3;have cn:=HT k b4;have bh:(zX (kids.getD 0 0) (a.take k) (kids.take k)).2.length <=2000000:=Nat.le_trans (b9 k) (by simp;omega);(have db:k<a.length:=by have:=ag.out;omega);have cs:=hid (show(zX (kids.getD 0 0) (a.take k) (kids.take k)).1.length <=2000000 from by rw[zFf];exact bh);generalize hm:zX (kids.getD 0 0) (a.take k) (kids.take k)=m at*;generalize a4:lastOf (kids.getD 0 0::m.2)=last at*;have ca:=hid cn;have A:=hid (And.intro P (And.intro a0 (And.intro af (And.intro ah (And.intro J bi)))));have ab:=hid a6;have bb:=hid (And.intro hm a4);clear cn P a0 af ah J bi hm a4;generalize kids.getD k 0=x at*;generalize a.getD k 0=s at*;generalize kids.getD 0 0=k0 at*;subst a6;(have q1:(0:Int)<=(m.2.length:Int):=by omega);(have q2:m.2.length<m.2.length+1:=by omega);have bi:=A.2.2.2.2.2;by_cases al:x=last
   ·(have hx:(x !=last)=false:=by simp[al]);have HN:=hid ((ca).trans (if_pos al));clear al;go_wp2;go_roundw
    case rel=>
     refine⟨k+1,R,.slice (some ⟨T,f,none⟩) (m.2.length+1) d,by omega,by go_num,?_⟩;rw[HN.out];exact A.out
    case measure=>simp[intOf];omega
   (have hx:(x !=last)=true:=by simp[al]);have HN:=hid ((ca).trans (if_neg al));clear al;go_wp2;have da:=cs.out;have ab:=hid (λk(hq:m.2≠[])(c:(Value.slice (some ⟨T,f,none⟩) (m.2.length+1) d).ownBlock =some k)=>A.2.2.1.lt' hq c);have cb:=hid (λk(c:R.ownBlock=some k)=>(A.2.1.lt k c).2);have C:=hid A.2.2.2.1;have ap:=hid A.1;have aq:=hid (show w.heap.size<wr.heap.size/\R.ownBlock≠some w.heap.size/\zEX m.2 (Value.slice (some ⟨T,f,none⟩) (m.2.length+1) d)≠some w.heap.size from⟨by omega,λh=>by have:=(A.2.1.lt _ h).1;omega,λh=>by have hv:=zDz h;have:=A.2.2.1.ge hv.1 hv.2;omega⟩);have bn:=hid (λb(N:b<w.heap.size)=>(show b<wr.heap.size/\R.ownBlock≠some b/\zEX m.2 (Value.slice (some ⟨T,f,none⟩) (m.2.length+1) d)≠some b from⟨by omega,λh=>by have:=(A.2.1.lt _ h).1;omega,λh=>by have hv:=zDz h;have:=A.2.2.1.ge hv.1 hv.2;omega⟩));have bv:=hid (λW(hW:zA (λb=>b<wr.heap.size/\R.ownBlock≠some b/\zEX m.2 (Value.slice (some ⟨T,f,none⟩) (m.2.length+1) d)≠some b) wr W)=>(show W.cell? ⟨kb,koff,none⟩=some (.int .i64 k0) from hW.cell (bn kb bx) ak));have E:=hid (λW(hW:zA (λb=>b<wr.heap.size/\R.ownBlock≠some b/\zEX m.2 (Value.slice (some ⟨T,f,none⟩) (m.2.length+1) d)≠some b) wr W)=>(show W.cell? ⟨w.heap.size,2,none⟩=some R/\W.cell? ⟨w.heap.size,3,none⟩=some (.slice (some ⟨T,f,none⟩) (m.2.length+1) d)/\W.cell? ⟨sb,a7+k,none⟩=some (.int .i64 s) from⟨hW.cell aq b2,hW.cell aq b3,hW.cell (bn sb cl) cf⟩))
   have ae:=hid (λW v5 v6(hW:zA (λb=>b<wr.heap.size/\R.ownBlock≠some b/\zEX m.2 (Value.slice (some ⟨T,f,none⟩) (m.2.length+1) d)≠some b) wr W)(ho:W.ownsRow (w.heap.size+1) 3 1 v5 (m.1.length+1) (m.1.map (.int .i64)++[.int .i64 s]))(hq:zB1 (w.heap.size+1) W kb koff v6 k0 (m.2++[x]))(hd:∀k,v5.ownBlock=some k->v6.ownBlock=some k->False)=>
    zPu (M':=zX k0 (a.take (k+1)) (kids.take (k+1))) A.1 A.2.1 A.2.2.1 A.2.2.2.2.1 A.2.2.2.2.2 hW ho hq hd HN)
   have ad:=hid (show zA (λb=>b<wr.heap.size/\R.ownBlock≠some b/\zEX m.2 (Value.slice (some ⟨T,f,none⟩) (m.2.length+1) d)≠some b) wr wr.drew from(zA.refl _ _).drew);have b7:=hid (show wr.drew.ownsRow (w.heap.size+1) 3 1 R m.1.length (m.1.map (.int .i64)) from A.2.1);have b8:=hid (show zB1 (w.heap.size+1) wr.drew kb koff (.slice (some ⟨T,f,none⟩) (m.2.length+1) d) k0 m.2 from A.2.2.1);refine zY 14 (λW=>W.cell? ⟨w.heap.size,2,none⟩=some R/\W.cell? ⟨w.heap.size,3,none⟩=some (.slice (some ⟨T,f,none⟩) (m.2.length+1) d)/\W.cell? ⟨sb,a7+k,none⟩=some (.int .i64 s)) (by kernel_rfl) ?_;have H:=E _ ad.out;generalize wr.drew=W0 at*;clear b2 b3 ak cx cf ai
   (refine tkS 0 ?_ H ?_ ?_;rotate_left;intro w B;obtain⟨h1,h2,h3⟩:=B;go_simp;(try with_reducible rfl);simp only[nr])
   (refine tkS 1 ?_ H ?_ ?_;rotate_left;intro w B;obtain⟨h1,h2,h3⟩:=B;go_simp;(try with_reducible rfl);simp only[nr])
   (refine tkS 2 ?_ H ?_ ?_;rotate_left;intro w B;obtain⟨h1,h2,h3⟩:=B;go_simp;(try with_reducible rfl);simp only[nr])
   (refine tkS 3 ?_ H ?_ ?_;rotate_left;intro w B;obtain⟨h1,h2,h3⟩:=B;go_simp;(try with_reducible rfl);simp only[nr])
   (refine tkS 4 ?_ H ?_ ?_;rotate_left;intro w B;obtain⟨h1,h2,h3⟩:=B;go_simp;(try with_reducible rfl);simp only[nr])
   (refine tkS 5 ?_ H ?_ ?_;rotate_left;intro w B;obtain⟨h1,h2,h3⟩:=B;go_simp;(try with_reducible rfl);simp only[nr])
   (refine tkS 8 ?_ H ?_ ?_;rotate_left;intro w B;obtain⟨h1,h2,h3⟩:=B;go_simp;(try with_reducible rfl);simp only[nr])
   (refine tkS 9 ?_ H ?_ ?_;rotate_left;intro w B;obtain⟨h1,h2,h3⟩:=B;go_simp;(try with_reducible rfl);simp only[nr])
   (refine tkQ 10 H ?_;simp only[nr])
   refine wS2 6 11 (λK g=> ?_) (λK g=> ?_)
   ·
    (go_wp2_with fail);refine g _ _ (Or.inr (E _ (ad.alloc (.cells #[.int .i64 s] 3)))) ?_;clear g K
    (try simp only[nr])
    have D:=hid (ad.alloc (.cells #[.int .i64 s] 3));have cv:=hid (show W0.heap.size<(W0.alloc (.cells #[.int .i64 s] 3)).heap.size by simp);have b5:=hid ((Blk.new W0 3 #[.int .i64 s]).cell 0);have cw:=hid (show wr.heap.size<=W0.heap.size from ad.size);have ba:=hid (b7.alloc (.cells #[.int .i64 s] 3));have bc:=hid (b8.alloc (.cells #[.int .i64 s] 3));generalize (W0.alloc _)=W1 at*;have H:=E _ D.out;refine wS2 7 11 (λK g=> ?_) (λK g=> ?_)
    ·
     refine zDR (.tmp 34) (.tmp 39) _ rfl underlying33 Tryz.eInt rfl ba rfl (news:=[.int .i64 s]) rfl (one_cell b5) (by simp[Value.oneCell']) (by unfold maxLen;omega) (by omega) (by have:=D.size;omega) ?_;intro v5 W2 y t I;refine g _ _ (Or.inr (E _ (D.grown t (λk c _ n=>n.2.1 c)))) ?_;clear g K
     (try simp only[nr])
     have z:=hid (D.grown t (λk c _ n=>n.2.1 c));have ar:=hid y;have ax:=hid (bc.keep (Z:=λb=>R.ownBlock≠some b) ((zA.refl _ _).grown t (λk c _ n=>n c)) (λk _ c hv=>C k hv c));have G:=hid (λk(c:v5.ownBlock=some k)=>(show R.ownBlock=some k\/wr.heap.size<=k from(by have n:=D.size;rcases I with h|h;exact Or.inl (h▸c);rw[c]at h;injection h with h;exact Or.inr (by omega))));have az:=hid t.size;clear y t I;have H:=E _ z.out
     (refine tkQ 13 H ?_;simp only[nr])
     refine wS1 11 (λK g=> ?_);(go_wp2_with fail);refine g _ _ (Or.inr (E _ (z.alloc (.cells #[.int .i64 x] 3)))) ?_;clear g K
     (try simp only[nr])
     have o:=hid (z.alloc (.cells #[.int .i64 x] 3));have cc:=hid (show W2.heap.size<(W2.alloc (.cells #[.int .i64 x] 3)).heap.size by simp);have ao:=hid ((Blk.new W2 3 #[.int .i64 x]).cell 0);have bd:=hid (show wr.heap.size<=W2.heap.size from z.size);have X:=hid (ar.alloc (.cells #[.int .i64 x] 3));have ay:=hid (ax.alloc (.cells #[.int .i64 x] 3));generalize (W2.alloc _)=W3 at*;have H:=E _ o.out;refine wS1 12 (λK g=> ?_);refine zEd (M:=m.2) ay (bv _ o) (.tmp 42) (.tmp 44) rfl rfl rfl ao (by omega) (by have:=o.size;omega) ?_;intro v6 W4 L v u;refine g _ _ (Or.inr (E _ (o.grown v (λk c _ n=>n.2.2 c)))) ?_;clear g K
     (try simp only[nr])
     have O:=hid (o.grown v (λk c _ n=>n.2.2 c));have aa:=hid L;have bo:=hid (λk(c:v6.ownBlock=some k)=>(show(Value.slice (some ⟨T,f,none⟩) (m.2.length+1) d).ownBlock =some k\/wr.heap.size<=k from(by have n:=o.size;rcases u k c with h|h;exact Or.inr (by omega);exact Or.inl h.2)));have Y:=hid (zXL (Z:=λb=>zEX m.2 (Value.slice (some ⟨T,f,none⟩) (m.2.length+1) d)≠some b) X ((zA.refl _ _).grown v (λk c _ n=>n c)) (λk c hv=>(by have Q:=zDz hv;rcases G k c with h|h;exact C k h Q.2;have:=ab k Q.1 Q.2;omega)));have au:=hid (λk(h5:v5.ownBlock=some k)(h6:v6.ownBlock=some k)=>(show False from(by have hl:=(X.lt k h5).2;rcases u k h6 with h|h;omega;(rcases G k h5 with h'|h';exact C k h' h.2;have:=ab k h.1 h.2;omega))));have cd:=hid v.size;clear L v u;have H:=E _ O.out;obtain⟨g5,bp,rfl⟩:=zBc Y.out;obtain⟨g6,c6,rfl⟩:=aa.form;have j:=(ap).keep O aq.out;have x2:=j.cell 2;have x3:=j.cell 3;have y2:=j.frozen 2;have y3:=j.frozen 3;have U:=j.lt;have b6:=hid j;clear j;refine wS1 14 (λK g=> ?_);(go_wp2_with fail);refine g _ _ (Or.inl rfl) ?_;clear g K
     (try simp only[nr])
     refine wS1 15 (λK g=> ?_);(go_wp2_with fail);refine g _ _ (Or.inl rfl) ?_;clear g K
     (try simp only[nr])
     refine wS1 16 (λK g=> ?_);(go_wp2_with fail);refine g _ _ (Or.inl rfl) ?_;clear g K H
     (try simp only[nr])
     refine wSd ?_ _;have HL:=hid (ae _ _ _ O Y aa au);clear x2 x3 y2 y3 U;go_wp2;go_roundw;(case rel=>(obtain⟨a8,a9,a3⟩:=HL.out;exact⟨k+1,a8,a9,by omega,by go_num,a3⟩));case measure=>simp[intOf];omega
    
    (go_wp2_with fail);refine g _ _ (Or.inr (E _ (D.alloc (.cells #[.int .i64 x] 3)))) ?_;clear g K
    (try simp only[nr])
    have z:=hid (D.alloc (.cells #[.int .i64 x] 3));have az:=hid (show W1.heap.size<(W1.alloc (.cells #[.int .i64 x] 3)).heap.size by simp);have bt:=hid ((Blk.new W1 3 #[.int .i64 x]).cell 0);have bd:=hid (show wr.heap.size<=W1.heap.size from D.size);have bs:=hid (zD5 b5 (.cells #[.int .i64 x] 3));have ar:=hid (ba.alloc (.cells #[.int .i64 x] 3));have ax:=hid (bc.alloc (.cells #[.int .i64 x] 3));generalize (W1.alloc _)=W2 at*;have H:=E _ z.out;refine wS1 7 (λK g=> ?_);refine zDR (.tmp 34) (.tmp 39) _ rfl underlying33 Tryz.eInt rfl ar rfl (news:=[.int .i64 s]) rfl (one_cell bs) (by simp[Value.oneCell']) (by unfold maxLen;omega) (by omega) (by have:=z.size;omega) ?_;intro v5 W3 y t I;refine g _ _ (Or.inr (E _ (z.grown t (λk c _ n=>n.2.1 c)))) ?_;clear g K
    (try simp only[nr])
    have o:=hid (z.grown t (λk c _ n=>n.2.1 c));have X:=hid y;have ay:=hid (ax.keep (Z:=λb=>R.ownBlock≠some b) ((zA.refl _ _).grown t (λk c _ n=>n c)) (λk _ c hv=>C k hv c));have G:=hid (λk(c:v5.ownBlock=some k)=>(show R.ownBlock=some k\/wr.heap.size<=k from(by have n:=z.size;rcases I with h|h;exact Or.inl (h▸c);rw[c]at h;injection h with h;exact Or.inr (by omega))));have ao:=hid (t.cell bt (λh=>by have h1:=cb _ h.symm;have h2:=bd.out;simp at h1;omega));have cc:=hid t.size;clear y t I;have H:=E _ o.out
    (refine tkQ 13 H ?_;simp only[nr])
    refine wS1 12 (λK g=> ?_);refine zEd (M:=m.2) ay (bv _ o) (.tmp 42) (.tmp 44) rfl rfl rfl ao (by omega) (by have:=o.size;omega) ?_;intro v6 W4 L v u;refine g _ _ (Or.inr (E _ (o.grown v (λk c _ n=>n.2.2 c)))) ?_;clear g K
    (try simp only[nr])
    have O:=hid (o.grown v (λk c _ n=>n.2.2 c));have aa:=hid L;have bo:=hid (λk(c:v6.ownBlock=some k)=>(show(Value.slice (some ⟨T,f,none⟩) (m.2.length+1) d).ownBlock =some k\/wr.heap.size<=k from(by have n:=o.size;rcases u k c with h|h;exact Or.inr (by omega);exact Or.inl h.2)));have Y:=hid (zXL (Z:=λb=>zEX m.2 (Value.slice (some ⟨T,f,none⟩) (m.2.length+1) d)≠some b) X ((zA.refl _ _).grown v (λk c _ n=>n c)) (λk c hv=>(by have Q:=zDz hv;rcases G k c with h|h;exact C k h Q.2;have:=ab k Q.1 Q.2;omega)));have au:=hid (λk(h5:v5.ownBlock=some k)(h6:v6.ownBlock=some k)=>(show False from(by have hl:=(X.lt k h5).2;rcases u k h6 with h|h;omega;(rcases G k h5 with h'|h';exact C k h' h.2;have:=ab k h.1 h.2;omega))));have cd:=hid v.size;clear L v u;have H:=E _ O.out;obtain⟨g5,bp,rfl⟩:=zBc Y.out;obtain⟨g6,c6,rfl⟩:=aa.form;have j:=(ap).keep O aq.out;have x2:=j.cell 2;have x3:=j.cell 3;have y2:=j.frozen 2;have y3:=j.frozen 3;have U:=j.lt;have b6:=hid j;clear j;refine wS1 14 (λK g=> ?_);(go_wp2_with fail);refine g _ _ (Or.inl rfl) ?_;clear g K
    (try simp only[nr])
    refine wS1 15 (λK g=> ?_);(go_wp2_with fail);refine g _ _ (Or.inl rfl) ?_;clear g K
    (try simp only[nr])
    refine wS1 16 (λK g=> ?_);(go_wp2_with fail);refine g _ _ (Or.inl rfl) ?_;clear g K H
    (try simp only[nr])
    refine wSd ?_ _;have HL:=hid (ae _ _ _ O Y aa au);clear x2 x3 y2 y3 U;go_wp2;go_roundw;(case rel=>(obtain⟨a8,a9,a3⟩:=HL.out;exact⟨k+1,a8,a9,by omega,by go_num,a3⟩));case measure=>simp[intOf];omega
   
   (go_wp2_with fail);refine g _ _ (Or.inr (E _ (ad.alloc (.cells #[.int .i64 x] 3)))) ?_;clear g K
   (try simp only[nr])
   have D:=hid (ad.alloc (.cells #[.int .i64 x] 3));have cv:=hid (show W0.heap.size<(W0.alloc (.cells #[.int .i64 x] 3)).heap.size by simp);have cp:=hid ((Blk.new W0 3 #[.int .i64 x]).cell 0);have bd:=hid (show wr.heap.size<=W0.heap.size from ad.size);have ba:=hid (b7.alloc (.cells #[.int .i64 x] 3));have bc:=hid (b8.alloc (.cells #[.int .i64 x] 3));generalize (W0.alloc _)=W1 at*;have H:=E _ D.out;refine wS1 6 (λK g=> ?_);(go_wp2_with fail);refine g _ _ (Or.inr (E _ (D.alloc (.cells #[.int .i64 s] 3)))) ?_;clear g K
   (try simp only[nr])
   have z:=hid (D.alloc (.cells #[.int .i64 s] 3));have az:=hid (show W1.heap.size<(W1.alloc (.cells #[.int .i64 s] 3)).heap.size by simp);have bs:=hid ((Blk.new W1 3 #[.int .i64 s]).cell 0);have cw:=hid (show wr.heap.size<=W1.heap.size from D.size);have bt:=hid (zD5 cp (.cells #[.int .i64 s] 3));have ar:=hid (ba.alloc (.cells #[.int .i64 s] 3));have ax:=hid (bc.alloc (.cells #[.int .i64 s] 3));generalize (W1.alloc _)=W2 at*;have H:=E _ z.out;refine wS1 7 (λK g=> ?_);refine zDR (.tmp 34) (.tmp 39) _ rfl underlying33 Tryz.eInt rfl ar rfl (news:=[.int .i64 s]) rfl (one_cell bs) (by simp[Value.oneCell']) (by unfold maxLen;omega) (by omega) (by have:=z.size;omega) ?_;intro v5 W3 y t I;refine g _ _ (Or.inr (E _ (z.grown t (λk c _ n=>n.2.1 c)))) ?_;clear g K
   (try simp only[nr])
   have o:=hid (z.grown t (λk c _ n=>n.2.1 c));have X:=hid y;have ay:=hid (ax.keep (Z:=λb=>R.ownBlock≠some b) ((zA.refl _ _).grown t (λk c _ n=>n c)) (λk _ c hv=>C k hv c));have G:=hid (λk(c:v5.ownBlock=some k)=>(show R.ownBlock=some k\/wr.heap.size<=k from(by have n:=z.size;rcases I with h|h;exact Or.inl (h▸c);rw[c]at h;injection h with h;exact Or.inr (by omega))));have ao:=hid (t.cell bt (λh=>by have h1:=cb _ h.symm;have h2:=bd.out;simp at h1;omega));have cc:=hid t.size;clear y t I;have H:=E _ o.out
   (refine tkQ 13 H ?_;simp only[nr])
   refine wS1 12 (λK g=> ?_);refine zEd (M:=m.2) ay (bv _ o) (.tmp 42) (.tmp 44) rfl rfl rfl ao (by omega) (by have:=o.size;omega) ?_;intro v6 W4 L v u;refine g _ _ (Or.inr (E _ (o.grown v (λk c _ n=>n.2.2 c)))) ?_;clear g K
   (try simp only[nr])
   have O:=hid (o.grown v (λk c _ n=>n.2.2 c));have aa:=hid L;have bo:=hid (λk(c:v6.ownBlock=some k)=>(show(Value.slice (some ⟨T,f,none⟩) (m.2.length+1) d).ownBlock =some k\/wr.heap.size<=k from(by have n:=o.size;rcases u k c with h|h;exact Or.inr (by omega);exact Or.inl h.2)));have Y:=hid (zXL (Z:=λb=>zEX m.2 (Value.slice (some ⟨T,f,none⟩) (m.2.length+1) d)≠some b) X ((zA.refl _ _).grown v (λk c _ n=>n c)) (λk c hv=>(by have Q:=zDz hv;rcases G k c with h|h;exact C k h Q.2;have:=ab k Q.1 Q.2;omega)));have au:=hid (λk(h5:v5.ownBlock=some k)(h6:v6.ownBlock=some k)=>(show False from(by have hl:=(X.lt k h5).2;rcases u k h6 with h|h;omega;(rcases G k h5 with h'|h';exact C k h' h.2;have:=ab k h.1 h.2;omega))));have cd:=hid v.size;clear L v u;have H:=E _ O.out;obtain⟨g5,bp,rfl⟩:=zBc Y.out;obtain⟨g6,c6,rfl⟩:=aa.form;have j:=(ap).keep O aq.out;have x2:=j.cell 2;have x3:=j.cell 3;have y2:=j.frozen 2;have y3:=j.frozen 3;have U:=j.lt;have b6:=hid j;clear j;refine wS1 14 (λK g=> ?_);(go_wp2_with fail);refine g _ _ (Or.inl rfl) ?_;clear g K
   (try simp only[nr])
   refine wS1 15 (λK g=> ?_);(go_wp2_with fail);refine g _ _ (Or.inl rfl) ?_;clear g K
   (try simp only[nr])
   refine wS1 16 (λK g=> ?_);(go_wp2_with fail);refine g _ _ (Or.inl rfl) ?_;clear g K H
   (try simp only[nr])
   refine wSd ?_ _;have HL:=hid (ae _ _ _ O Y aa au);clear x2 x3 y2 y3 U;go_wp2;go_roundw;(case rel=>(obtain⟨a8,a9,a3⟩:=HL.out;exact⟨k+1,a8,a9,by omega,by go_num,a3⟩));case measure=>simp[intOf];omega
  obtain rfl:k=kids.length:=by omega
  have cm:a.take kids.length=a:=by rw[<-ag.out];exact List.take_length
  rw[cm,List.take_length]at a0 af;have ak:wr.cell? ⟨kb,koff,none⟩=some (.int .i64 (kids.getD 0 0)):=(J.cell (p:=⟨kb,koff,none⟩) cz).trans (aw 0 bf);obtain⟨T,f,d,a6,ck,-⟩:=af.open_ ak;have b3:=P.at3;have bh:(zX (kids.getD 0 0) a kids).2.length <=2000000:=Nat.le_trans (zE6 _ _ _) cy;have ci:=zFf (kids.getD 0 0) a kids;generalize hm:zX (kids.getD 0 0) a kids=m at*;have A:=hid (And.intro P (And.intro a0 (And.intro af (And.intro ah (And.intro J bi)))));have ab:=hid a6;have bb:=hid hm;have bw:=hid ci;have cq:=hid (bz _ (zBa bf));have cu:=hid (zPt a kids bq bg);clear cm P a0 af ah J hm ci b9 HT aw E;generalize kids.getD 0 0=k0 at*;subst a6;obtain⟨mc,mq⟩:=m;simp only at A bw bb b3 bh ck
  cases mq with
  |nil=>
   have HE:=hid (bm.trans (if_pos rfl));simp only[List.length_nil,Nat.zero_add]at*;(have c0:wr.cell? ⟨kb,koff+0,none⟩=some (.int .i64 (k0)):=by rw[Nat.add_zero];exact ak);go_wp2;go_ret;rw[HE.out];exact⟨rfl,⟨F,Z,HM.below A.2.2.2.2.1,λb N=>Or.inl N,λb N=>Or.inl N⟩,.of_below A.2.2.2.2.1⟩
  |cons q0 q=>
  have HE:=hid (bm.trans (if_neg (by simp)))
  have a5:wr.ownsRow (w.heap.size+1) 3 1 (.slice (some ⟨T,f,none⟩) ((q0::q).length +1) d) ((q0::q).length +1) ((k0::q0::q).map (.int .i64)):=by
   rcases A.2.2.1 with⟨h,_⟩|⟨_,h⟩
   ·simp at h
   exact h
  have cr:=hid bz;have a1:∀x∈mc,I64 x:=λx hx=>ct x hx
  have a2:∀x∈k0::q0::q,I64 x:=λx hx=>by
   rcases List.mem_cons.1 hx with rfl|hx
   ·exact cq.out
   exact cr _ (zGq (k0) a kids x (by rw[bb.out];exact hx))
  have cg:=zHr A.2.1 a1 (by have:=bw.out;omega);have ch:=zHr a5 a2 (by simp only[List.length_cons]at bh⊢;omega);have bj:=λk c=>A.2.1.lt k c
  have bk:=λk c=>a5.lt k c
  have HN:=hid (zG3 M all F Z (λb=>R.ownBlock=some b\/(Value.slice (some ⟨T,f,none⟩) ((q0::q).length +1) d).ownBlock =some b) ⟨false,i,mc,k0::q0::q⟩ [.bool false,.int .i64 i,R,.slice (some ⟨T,f,none⟩) ((q0::q).length +1) d] wr (HM.below A.2.2.2.2.1)
   ⟨⟨R,_,rfl,hi,cg.mono (λb N=>Or.inl N),ch.mono (λb N=>Or.inr N)⟩,λb N=>by
    rcases N with N|N
    ·exact⟨λhF=>by have:=HM.liveF b hF;have:=(bj b N).1;omega,(bj b N).2⟩
    exact⟨λhF=>by have:=HM.liveF b hF;have:=(bk b N).1;omega,(bk b N).2⟩,by show mc.length<=2000000;have:=bw.out;omega,by show(k0::q0::q).length <=2000000;have h1:=zE6 (k0) (a.drop 1) (kids.drop 1);have h2:=cu.out;rw[bb.out]at h2;rw[h2]at h1;simp at h1⊢;omega⟩ ce (((br.on A.2.2.2.2.1)).mono A.2.2.2.2.1.size))
  have az:=hid (And.intro bj bk);have b0:=A.1.at0;have b1:=A.1.at1;have b2:=A.1.at2;have U:w.heap.size<wr.heap.size:=A.1.lt;clear a5 cg ch bj bk bz a1 a2 br;simp only[List.length_cons]at*
  have av:=hid (λe W'(hp:zC3 wr M F (λb=>Z b\/(R.ownBlock=some b\/(Value.slice (some ⟨T,f,none⟩) (q.length+1+1) d).ownBlock =some b)) (zAb all i a kids) e W')=>zR1 (w:=w) A.2.2.2.2.1 (λb N=>by
   rcases N with N|N
   ·have:=(az.1 b N).1;omega
   have:=(az.2 b N).1;omega) hp)
  rw[HE.out]at av;go_wp2_with fail
  refine HN.mono ?_;rintro e W' ⟨rfl,cj⟩;have bu:=hid (av _ _ ⟨rfl,cj⟩);clear cj HN av;go_wp2;go_ret;rw[HE.out];exact bu.out
theorem Tryz.egFrom1:∀args w,(callFunc 170 args).run prog w= .ok (.enter 170 args) w:=enters_of func170 (by kernel_rfl) rfl
theorem Tryz.lookII{b:Nat}{a:List (Int × Value)}(h:zS encI w b a)(s:Int)(c:Bool):
  (Instr.lookup 235 (.map (some b)) (.int .i64 s) c).run prog w= .ok (if c then .tuple #[(zAA a s).getD (.int .i64 0),.bool (zAA a s).isSome]else(zAA a s).getD (.int .i64 0)) w:=
 h.look (zJR (P:=prog) (k:=3) underlying3) (t:=235) (e:=3) underlying235 (Tryz.zeroInt w) s c
theorem MkS.node_at(h:MkS w M all F Z){i:Nat}(hi:i<all.length):
  ∃g cap c d,w.cell? ⟨M,0,none⟩=some (.slice (some ⟨g,0,none⟩) all.length cap)/\F g/\w.cell? ⟨g,i*4,none⟩=some (.bool all[i].leaf)/\w.cell? ⟨g,i*4+1,none⟩=some (.int .i64 all[i].fact)/\
   w.cell? ⟨g,i*4+2,none⟩=some c/\w.cell? ⟨g,i*4+3,none⟩=some d/\I64 all[i].fact /\zO Z w c all[i].cuts /\zO Z w d all[i].kids :=by
 obtain⟨⟨v,B,m,o,f,q,_,s⟩,_⟩:=h;obtain⟨n,k⟩:∃n,all.length=n+1:=⟨all.length-1,by omega⟩;have b:=f;rw[k]at b;obtain⟨g,cap,rfl⟩:=zBc b;obtain⟨A,⟨c,d,rfl,x,t,y⟩,e⟩:=q.at_ i hi
 have a:∀j u,([.bool all[i].leaf,.int .i64 all[i].fact,c,d]:List Value)[j]? =some u->w.cell? ⟨g,i*4+j,none⟩=some u:=λj u z=>by
  have:=f.cells (g:=g) rfl (i*4+j) u (e j u z);rwa[show(⟨g,0,none⟩:Addr).add (i*4+j)=⟨g,i*4+j,none⟩ from by unfold Addr.add;split<;>simp_all]at this
 exact⟨g,cap,c,d,by rw[k];exact o.cell 0,(s g rfl).1,a 0 _ rfl,a 1 _ rfl,a 2 _ rfl,a 3 _ rfl,x,t,y⟩
def kvO:List Int->Nat->List (Int × Value)
 |[],_=>[]
 |n::r,i=>(n,.int .i64 (i:Nat))::kvO r (i+1)
theorem zLc:∀(o:List Int)(i:Nat)(n:Int),zAA (kvO o i) n=if n∈o then some (.int .i64 ((i+o.idxOf n:Nat):Int))else none
 |[],_,_=>by simp[kvO,zAA]
 |m::r,i,n=>by
  unfold kvO zAA;by_cases h:n=m
  ·subst h;rw[if_pos rfl,if_pos (by simp)];simp
  rw[if_neg h,zLc r (i+1) n];simp only[List.mem_cons,h,false_or];split
  ·rw[List.idxOf_cons];(have:(m==n)=false:=by simp;exact λe=>h e.symm);rw[this];simp;omega
  rfl
theorem zPQ:∀(o:List Int)(i:Nat)(n:Int),n∉o->zAq (kvO o i) n (.int .i64 ((i+o.length:Nat):Int))=kvO (o++[n]) i
 |[],_,_,_=>by simp[kvO,zAq]
 |m::r,i,n,h=>by
  simp only[List.mem_cons,not_or]at h;have ih:=zPQ r (i+1) n h.2;simp only[kvO,zAq,List.cons_append,List.length_cons];rw[if_neg h.1,<-ih,show i+(r.length+1)=i+1+r.length by omega]
structure zKG (w:World) (P O Mv V pb M B:Nat) (all:List zB) (F Z:Nat->Prop):Prop where
 p:One w P (.map (some pb))
 m:One w Mv (.pointer (some ⟨M,0,none⟩))
 v:One w V (.func (.func 170) #[] #[.pointer (some ⟨P,0,none⟩),.pointer (some ⟨O,0,none⟩),.pointer (some ⟨Mv,0,none⟩),.pointer (some ⟨V,0,none⟩)])
 maker:MkS w M all F Z
 off:∀b,(F b\/Z b\/b=P\/b=Mv\/b=V)->b<B/\b≠pb/\b≠O
 o:O<B/\O≠pb
 size:B<=w.heap.size
def zKH(w:World)(O pb B:Nat)(order:List Int):Prop:=
 ∃vo,One w O vo/\w.ownsRow B 3 1 vo order.length (order.map (.int .i64))/\zS encI w pb (kvO order 0)
def zPv(O pb B:Nat):zD:=λb=>b<B/\b≠pb/\b≠O
theorem zKG.keep{w w':World}{P O Mv V d M B:Nat}(h:zKG w P O Mv V d M B all F Z)(c:zA (zPv O d B) w w'):zKG w' P O Mv V d M B all F Z:=by
 obtain⟨e,f,g,i,a,j,k⟩:=h;exact⟨e.keep c (a _ (Or.inr (Or.inr (Or.inl rfl)))),f.keep c (a _ (Or.inr (Or.inr (Or.inr (Or.inl rfl))))),g.keep c (a _ (Or.inr (Or.inr (Or.inr (Or.inr rfl))))),i.keep (c.mono λb _ m=>a b (by rcases m with h|h;exact Or.inl h;exact Or.inr (Or.inl h))),a,j,Nat.le_trans k c.size⟩
theorem zSd{w f g:World}{P O Mv V e M B:Nat}(h:zKG w P O Mv V e M B all F Z)(a:zA (λc=>c≠e) w f)
  (q:f.ownsRow B 3 1 v n xs)(j:(f.alloc o).grownBy g v.ownBlock):∀u,zA (zPv O e B) w (g.setCell ⟨O,0,none⟩ u):=λu=>
 (((a.mono λb _ i=>i.2.1).trans ((zA.refl _ _).alloc o)).grown j (λk m _ d=>by have:=(q.lt k m).1;have:=d.1;omega)).setCell (λ_ d=>d.2.2 rfl) u
theorem zSe{w j m:World}{P O Mv V f M B:Nat}{v g v0:Value}{a:List Int}(t:zKG w P O Mv V f M B all F Z)(s:zA (λc=>c≠f) w j)
  (b:zS encI j f (zAq (kvO a 0) i (.int .i64 ((a.length:Nat):Int))))(y:j.ownsRow B 3 1 v a.length (a.map (.int .i64)))(n:One m O v0)(u:(j.alloc o).grownBy m v.ownBlock)
  (d:m.ownsRow B 3 1 g (a.length+1) (a.map (.int .i64)++[.int .i64 i]))(z:zAq (kvO a 0) i (.int .i64 ((a.length:Nat):Int))=kvO (a++[i]) 0):zKH (m.setCell ⟨O,0,none⟩ g) O f B (a++[i]):=by
 have q:f<(j.alloc o).heap.size :=by have:=b.lt;simp;omega
 refine⟨g,n.set_ g,?_,?_⟩
 ·have:=zXL (Z:=λc=>c≠O) d ((zA.refl _ _).setCell (p:=⟨O,0,none⟩) (λ_ h=>h rfl) g) (λk x e=>by have:=(d.lt k x).1;have:=t.o.1;omega);simpa using this
 rw[<-z];refine((b.of_block (Below.heap_alloc _ _ _ b.lt)).of_block (u.block f q (λe=>zHk y b e.symm))).of_block (Below.heap_setCell _ _ _ _ (λe=>t.o.2 e.symm))
theorem zR2(ds:List zE)(all:List zB)(hg:Good ds all)(ak:all.length<=1000000)(P O Mv V pb M B:Nat)(F Z:Nat->Prop):∀(k:Nat)(i:Int)(c:List Int)(w:World),Rng all i->zCS ds all i<k->(∀x∈c,Rng all x)->c.Nodup->
  zKG w P O Mv V pb M B all F Z->zKH w O pb B c->
  Calls prog 170 #[.int .i64 i,.pointer (some ⟨P,0,none⟩),.pointer (some ⟨O,0,none⟩),.pointer (some ⟨Mv,0,none⟩),.pointer (some ⟨V,0,none⟩)] w λe w'=>
   e= .returned (.tuple #[])/\zKH w' O pb B (zAI all k i c)/\zA (zPv O pb B) w w':=by
 intro k
 induction k with
 |zero=>intro i c w _ h;omega
 |succ k ih=>
 intro i c w hi hr ho hn E hO;have eg:=Tryz.egFrom1;have IH:=hid ih;clear ih;obtain⟨vo,z,s,q⟩:=hO;have p1:=E.p.cell;have p2:=E.p.lt;have o1:=z.cell;have o2:=z.lt;have hl:=Tryz.lookII q i true;rw[zLc]at hl;by_cases U:i∈c
 ·rw[if_pos U]at hl;simp only[Option.getD_some,Option.isSome_some,if_true]at hl;have HV:=hid (show zAI all (k+1) i c=c from by unfold zAI;rw[if_pos U]);have HO:=hid (show zKH w O pb B c from⟨vo,z,s,q⟩);clear U E z s q ho hn hg;go_enter func170,ntmps170
  go_wp2;exact bodyPost_ret (v:= .tuple #[]) (by simp[results,results170,go_sem]) rfl ⟨rfl,by rw[HV.out];exact HO.out,.refl _ _⟩
 rw[if_neg U]at hl;simp only[Option.getD_none,Option.isSome_none,if_true]at hl;have J:=zPQ c 0 i U;rw[Nat.zero_add]at J;have ag:=hid J;have HV:=hid (show zAI all (k+1) i c=(nAt all i).kids.foldl (λo x=>zAI all k x o) (c++[i]) from by rw[zAI,if_neg U]);have bs:c.length<=1000000:=Nat.le_trans (zEs _ _ hn ho) ak;obtain⟨A,bp,rfl,-,-,-⟩:=Row.of_own s (by decide);have K:=hid E;have D:=hid (And.intro z (And.intro s q));have C:=hid (And.intro ho (And.intro hn U));clear E z s q ho hn U J;go_enter func170,ntmps170
 go_upto_region 4 with(first
  |(at_mapUpdate;refine zA6 rfl (.tmp 17) (.tmp 18) _ rfl (zJR (P:=prog) (k:=3) underlying3) (e:=3) underlying235 rfl (D.2.2) i rfl ?_;intro w1 ax Q Y ap aq;have H:=(D.1.keep Q K.o.2);have ay:=zHk D.2.1 D.2.2;have I:=zXL D.2.1 Q (λk hk e=>ay (e▸hk));have bh:=H.cell;have bi:=H.lt;have bj:=H.free;have u:=hid (And.intro ax (And.intro Q (And.intro Y H)));have f:=hid I;clear ax Q Y ap aq H ay I o1 o2 hl)
  |(at_builtin;refine zh rfl (.tmp 21) (.tmp 23) _ rfl underlying33 Tryz.eInt rfl (f.alloc _) rfl (news:=[.int .i64 i]) rfl (one_cell (by simp)) (by simp[Value.oneCell']) (by unfold maxLen;omega) (by omega) (by have:=K.size;have:=u.2.1.size;simp;omega) ?_;intro v5 w5 t N al;obtain⟨g5,R,bg⟩:=zBc t;subst bg;have G:=(u.2.2.2.alloc (.cells #[.int .i64 i] 3)).of_block (N.block O (by simp;omega) (λe=>by have:=(f.lt O e.symm).1;have:=K.o.1;omega));have d0:=G.cell;have d1:=G.free;have d2:=G.lt;have HX:=hid (zSe K u.2.1 u.1 f G N t ag);have af:=hid (zSd K u.2.1 f N);clear t N al G bh bi bj))
 have aw:=af (.slice (some ⟨g5,0,none⟩) (c.length+1) R);have ab:=hid aw;have hx:=HX.out;clear aw HX af d0 d1 d2 u f;generalize (w5.setCell ⟨O,0,none⟩ (.slice (some ⟨g5,0,none⟩) (c.length+1) R))=W at*;have E:=K.keep ab.out;obtain⟨n,rfl⟩:=Int.eq_ofNat_of_zero_le hi.1;have au:n<all.length:=by have:=hi.2;omega
 have e1:=E.m.cell;have a6:=E.m.lt;obtain⟨g,bk,vc,vk,e2,bb,e3,e4,e5,e6,hf,bc,ar⟩:=E.maker.node_at au;have a7:=lt_of_cell e2;have a8:=lt_of_cell e6;have bf:(n:Int)<(all.length:Nat):=by omega
 have bd:(0:Int)<=(n:Int):=by omega
 have X:=zCB au;have ae:=λx hx=>hg.rank_kid hi (k:=x) hx
 rw[X]at ae HV;have a2:=hid ar;have a4:=hid ae;have bo:=hid E;have a5:=hid hx;obtain⟨⟨KA,bn,rfl,-,-,br,-⟩,-⟩:=ar;have HG:=hid hg;clear E bc hx X ae bb hf hg;generalize all[n].kids =kids at*;go_wp2;go_loopw[35] (λix wr=>∃j:Nat,j<=kids.length/\ix= .int .i64 j/\zKH wr O pb B ((kids.take j).foldl (λo x=>zAI all k x o) (c++[(n:Int)]))/\zA (zPv O pb B) w wr/\Hid ((∀x∈(kids.take j).foldl (λo x=>zAI all k x o) (c++[(n:Int)]),Rng all x)/\((kids.take j).foldl (λo x=>zAI all k x o) (c++[(n:Int)])).Nodup)) (λix _=>kids.length-(intOf ix).toNat)
 case atStart=>
  refine⟨0,Nat.zero_le _,rfl,a5.out,ab.out,λx hx=> ?_,?_⟩
  ·rcases List.mem_append.1 hx with h|h
   ·exact C.1 x h
   simp at h;subst h;exact⟨bd,bf⟩
  show(c++[(n:Int)]).Nodup;rw[List.nodup_append];exact⟨C.2.1,by simp,λa ha b hb e=>by simp at hb;subst hb;exact C.2.2 (e▸ha)⟩
 case round=>
  obtain⟨j,hj,rfl,hO,y,d⟩:=hrel;clear e1 a6 e2 e3 e4 e5 e6 a7 a8;by_cases ac:j<kids.length
  ·obtain⟨b,a1,rfl,hz,bq,hc⟩:=a2.at_ ac;have L:=K.keep y;have a0:=K.off b (Or.inr (Or.inl hz))
   have ao:wr.cell? ⟨b,a1+j,none⟩=some (.int .i64 kids[j]):=by
    have T:=K.maker.liveZ b hz;have a9:=y.block b T a0;have ba:=ab.block b T a0;rw[World.cell?_of_block (w:=W) (a:=⟨b,a1+j,none⟩) (a9.trans ba.symm)];exact hc
   have v1:=L.v.cell;have v2:=L.v.lt;have bm:=lt_of_cell ao;have ad:=a4 kids[j] (List.getElem_mem ac);have HI:=hid (IH kids[j] _ wr ad.1 (by omega) d.1 d.2 L hO)
   have az:(kids.take (j+1)).foldl (λo x=>zAI all k x o) (c++[(n:Int)])=zAI all k kids[j] ((kids.take j).foldl (λo x=>zAI all k x o) (c++[(n:Int)])):=by
    rw[List.take_succ_eq_append_getElem ac,List.foldl_append];rfl
   have ai:=hid (zHe HG k kids[j] _ ad.1 (by omega) d.1 d.2);have ah:=hid az;have aa:=hid y;clear az ad hO y d L hc;generalize (kids.take j).foldl (λo x=>zAI all k x o) (c++[(n:Int)])=od at*;generalize kids[j]=x at*;(go_wp2_with fail);refine HI.mono ?_;rintro e w9 ⟨rfl,aj,av⟩;have H9:=hid (And.intro aj (aa.trans av));clear aj av HI v1 v2 ao;go_wp2;go_roundw
   case rel=>
    refine⟨j+1,by omega,by go_num,?_,H9.2,?_⟩
    ·rw[ah.out];exact H9.1
    rw[ah.out];exact⟨ai.1.rng,ai.1.nodup⟩
   case measure=>simp[intOf];omega
  obtain rfl:j=kids.length:=by omega
  rw[List.take_length]at hO;have a3:=hid hO;have aa:=hid y;clear hO y d;go_wp2;go_end0;refine⟨rfl,?_,aa⟩;rw[HV.out];exact a3.out
theorem zPw(Z:zD)(v:Value)(xs:List Int)(w:World)(h:zO Z w v xs):
  Calls prog 171 #[v] w λe w'=>∃d,e= .returned d/\w'.ownsRow w.heap.size 3 1 d xs.length (xs.map (.int .i64))/\Bw w w':=by
 by_cases g:xs=[]
 ·subst g;obtain⟨⟨A,c,rfl,f,_,_,_⟩,_⟩:=h
  cases A with
  |none=>
   refine(Tryz.slices_Clone_int_nil _ c w).mono ?_;rintro e w' ⟨rfl,rfl⟩;exact⟨_,rfl,World.ownsRow_nil _ _ _ _,Below.refl _ _⟩
  |some a=>
  refine(Tryz.slices_Clone_int_zero a c w).mono ?_;rintro e w' ⟨d,rfl,f,_,i⟩;exact⟨d,rfl,f,i⟩
 obtain⟨b,j,c,rfl,_,_,n,m⟩:=h.open_ g;obtain⟨⟨_,_,e,_,_,k,_⟩,_⟩:=h;refine(Tryz.slices_Clone_int b j xs.length c xs w (Nat.le_refl _) k m).mono ?_;rintro e w' ⟨d,rfl,f,_,i⟩;rw[List.take_length]at f;exact⟨d,rfl,f,i⟩
theorem zNb{g n cap:Nat}(h:w.ownsRow base e 1 (.slice (some ⟨g,0,none⟩) n cap) n xs)(j:Nat)(u:Value):
  (w.setCell ⟨g,j,none⟩ u).ownsRow base e 1 (.slice (some ⟨g,0,none⟩) n cap) n (xs.set j u):=by
 refine⟨by simpa using h.1,?_⟩;rcases h.2 with⟨h,_⟩|⟨g',cap',cur,e',hb,hg,h1,h2,h3,h4⟩
 ·cases h
 injection e' with e1 e2 e3;injection e1 with e1;injection e1 with e1;subst e1 e3;refine Or.inr ⟨g,cap,cur.setIfInBounds j u,rfl,hb,?_,h1,h2,by simpa using h3,?_⟩
 ·have:Blk w g e cur:=hg;exact this.set_ j u
 rw[<-h4];simp only[Nat.mul_one,Array.toList_setIfInBounds,List.take_set]
theorem zMM{g n cap:Nat}(h:w.ownsRow base e 1 (.slice (some ⟨g,0,none⟩) n cap) n xs){j:Nat}{u:Value}(a:xs[j]? =some u):w.cell? ⟨g,j,none⟩=some u/\w.frozen? ⟨g,j,none⟩=false:=by
 have:=h.cells (g:=g) rfl j u a;rw[show(⟨g,0,none⟩:Addr).add j=⟨g,j,none⟩ from by unfold Addr.add;split<;>simp_all]at this;refine⟨this,?_⟩;rcases h.2 with⟨h,_⟩|⟨g',cap',cur,e',hb,hg,_⟩
 ·cases h
 injection e' with e1 e2 e3;injection e1 with e1;injection e1 with e1;subst e1;exact(show Blk w g e cur from hg).frozen j
theorem zPx{k:Int}:(if false=true then Value.tuple #[(zAA (kvO od 0) k).getD (.int .i64 0),.bool (zAA (kvO od 0) k).isSome]else(zAA (kvO od 0) k).getD (.int .i64 0))= .int .i64 (zA3 od k):=by
 rw[if_neg (by simp),zLc];unfold zA3;split<;>simp
theorem zSf(l:List Int)(f:Int->Int){x:Nat}(a:x<l.length):
  ((l.take (x+1)).map f++l.drop (x+1)).map (Value.int .i64)=(((l.take x).map f++l.drop x).map (Value.int .i64)).set x (.int .i64 (f l[x])):=by
 rw[List.take_succ_eq_append_getElem a,List.drop_eq_getElem_cons a];simp only[List.map_append,List.map_cons,List.map_nil,List.append_assoc];rw[List.set_append_right _ _ (by simp;omega)];simp[Nat.min_eq_left (Nat.le_of_lt a)]
def zCw(ds:List zE)(g:List zB)(i:Int):List zB × Int:=if 4000<(zBm ds g i).length then([],2)else(zAr ds g i,0)
def zKI(Z:zD)(r:List zB × Int)(w:World)(e:Ending)(w':World):Prop:=
 ∃v,e= .returned (.tuple #[.agg #[v],.int .i64 r.2])/\zK (λb=>Z b\/w.heap.size<=b) w' v r.1/\Bw w w'
def zGI(w:World)(M:Nat):World:=
 ((((((w.alloc (.cells #[.pointer (some ⟨M,0,none⟩)] 173)).alloc (.cells #[.slice none 0 0] 74)).alloc (.map #[] 0)).alloc (.cells #[.map (some (w.heap.size+1+1))] 235)).alloc (.cells #[.slice none 0 0] 33)).alloc
  (.cells #[.func (.func 170) #[] #[.pointer (some ⟨w.heap.size+1+1+1,0,none⟩),.pointer (some ⟨w.heap.size+1+1+1+1,0,none⟩),.pointer (some ⟨w.heap.size,0,none⟩),.pointer (some ⟨w.heap.size+1+1+1+1+1,0,none⟩)]] 112))
theorem zG6(w:World)(v:Value)(t:TypeId)(h:w.heap.size=n):One (w.alloc (.cells #[v] t)) n v:=h▸One.new w v t
theorem zPy(h:MkS w M all F Z):
  zKG (zGI w M) (w.heap.size+1+1+1) (w.heap.size+1+1+1+1) w.heap.size (w.heap.size+1+1+1+1+1) (w.heap.size+1+1) M (w.heap.size+1+1+1+1+1+1) all F Z/\
  zKH (zGI w M) (w.heap.size+1+1+1+1) (w.heap.size+1+1) (w.heap.size+1+1+1+1+1+1) []/\Bw w (zGI w M)/\Blk (zGI w M) (w.heap.size+1) 74 #[.slice none 0 0]/\(zGI w M).heap.size =w.heap.size+1+1+1+1+1+1:=by
 have a:Bw w (zGI w M):=((((((Below.refl _ _).alloc (Nat.le_refl _) _).alloc (by simp) _).alloc (by simp;omega) _).alloc (by simp;omega) _).alloc (by simp;omega) _).alloc (by simp;omega) _;have d:(zGI w M).heap.size =w.heap.size+1+1+1+1+1+1:=by simp[zGI]
 refine⟨⟨?_,?_,?_,h.below a,λb a=> ?_,by omega,by omega⟩,?_,a,?_,d⟩
 ·exact((zG6 _ _ _ (by simp)).alloc _).alloc _
 ·exact(((((One.new w _ _).alloc _).alloc _).alloc _).alloc _).alloc _
 ·exact zG6 _ _ _ (by simp)
 ·rcases a with a|a|rfl|rfl|rfl
  ·have:=h.liveF b a;omega
  ·have:=h.liveZ b a;omega
  ·omega
  ·omega
  omega
 ·refine⟨.slice none 0 0,(zG6 _ _ _ (by simp)).alloc _,World.ownsRow_nil _ _ _ _,?_⟩;have:=zS.made ((w.alloc (.cells #[.pointer (some ⟨M,0,none⟩)] 173)).alloc (.cells #[.slice none 0 0] 74)) encI;simp only[World.size_alloc]at this;have c:zS encI (zGI w M) (w.heap.size+1+1) []:=this.of_block (((Below.heap_alloc _ _ _ (by simp;try omega)).trans (Below.heap_alloc _ _ _ (by simp;try omega))).trans (Below.heap_alloc _ _ _ (by simp;try omega)));exact c
 have:=((((Blk.new (w.alloc (.cells #[.pointer (some ⟨M,0,none⟩)] 173)) 74 #[.slice none 0 0]).alloc (.map #[] 0)).alloc (.cells #[.map (some (w.heap.size+1+1))] 235)).alloc (.cells #[.slice none 0 0] 33)).alloc (.cells #[.func (.func 170) #[] #[.pointer (some ⟨w.heap.size+1+1+1,0,none⟩),.pointer (some ⟨w.heap.size+1+1+1+1,0,none⟩),.pointer (some ⟨w.heap.size,0,none⟩),.pointer (some ⟨w.heap.size+1+1+1+1+1,0,none⟩)]] 112);simp only[World.size_alloc]at this;exact this
def zKe(w1 wr:World)(Z:zD)(all:List zB)(od:List Int)(k:Nat):Prop:=
 ∃cur csl,Blk wr w1.heap.size 123 cur/\cur.size=od.length*4/\cur.toList.take (k*4)=csl.flatten/\
  NdL (λb=>(Z b\/w1.heap.size+1<b)/\b<wr.heap.size/\b≠w1.heap.size) wr ((od.take k).map (zBF all od)) csl/\
  Blk wr (w1.heap.size+1) 74 #[.slice (some ⟨w1.heap.size,0,none⟩) od.length od.length]/\Bw w1 wr
theorem zOe{Z:zD}{a:Array Value}(c:n<=w1.heap.size)(b:a.size=od.length*4):
  zKe w1 ((w1.alloc (.cells a 123)).alloc (.cells #[.slice (some ⟨w1.heap.size,0,none⟩) od.length od.length] 74)) Z all od 0:=by
 refine⟨a,[],(Blk.new w1 _ a).alloc _,b,by simp,trivial,?_,zCX w1 _ _⟩;have:=Blk.new (w1.alloc (.cells a 123)) 74 #[.slice (some ⟨w1.heap.size,0,none⟩) od.length od.length];simp only[World.size_alloc]at this;exact this
theorem Tryz.szN:(prog.info? 123).map (·.size)=some 4:=by kernel_rfl
theorem Row.live{Z:zD}{A:Option Addr}(h:Row Z w A xs):Row (λb=>Z b/\b<w.heap.size) w A xs:=λa=>by
 obtain⟨b,c,e,f,d⟩:=h a;obtain⟨x,r,rfl⟩:=List.exists_cons_of_ne_nil a;exact⟨b,c,e,⟨f,lt_of_cell (d 0 x rfl)⟩,d⟩
theorem zO.live{Z:zD}{xs:List Int}(h:zO Z w v xs):zO (λb=>Z b/\b<w.heap.size) w v xs:=by
 obtain⟨⟨A,a,e,d,f,c,i⟩,g⟩:=h;exact⟨⟨A,a,e,d,f,c,i.live⟩,g⟩
theorem NdL.rows{Z:zD}{w:World}{b:Nat}(g:Z b):∀{e:List zB}{csl:List (List Value)}{a:Nat},NdL Z w e csl->(∀j u,csl.flatten[j]? =some u->w.cell? ⟨b,a+j,none⟩=some u)->zAW (zAY Z w) 4 Z w e (some ⟨b,a,none⟩)
 |[],[],_,_,_=>by unfold zAW;trivial
 |f::e,c::cs,a,h,hc=>by
  unfold zAW;have i:c.length=4:=h.1.size;refine⟨b,a,c,rfl,g,λj u d=> ?_,h.1,NdL.rows g h.2 λj u d=> ?_⟩
  ·refine hc j u ?_;rw[List.flatten_cons,List.getElem?_append_left (by have:=List.getElem?_eq_some_iff.1 d;obtain⟨h,_⟩:=this;exact h)];exact d
  have:=hc (4+j) u (by rw[List.flatten_cons,List.getElem?_append_right (by omega)];rw[show 4+j-c.length=j by omega];exact d);rwa[show a+4+j=a+(4+j) by omega]
 |[],_::_,_,h,_=>h.elim
 | _::_,[],_,h,_=>h.elim
theorem zR3(a:od.length<=4000)(k:Int):I64 (zA3 od k):=by
 unfold zA3;split
 ·rename_i h;have:=List.idxOf_lt_length_of_mem h;unfold I64;omega
 unfold I64;omega
theorem below_setCells(h:Below B w wr)(i:B<=g)(o:Nat)(a:List Value):Below B w (wr.setCells g o a):=by
 obtain⟨c,d,e,f⟩:=size_setCells g a o wr;exact⟨d.trans h.os,e.trans h.tape,f.trans h.output,by rw[c];exact h.size,λk b=>(zAN g a o wr k (by omega)).trans (h.block k b)⟩
theorem zPz{a I wr:World}{Z:zD}{cs:List Value}{B:zB}(J:zKe a I Z all od k)(M:k<od.length)
  (d:Bw I wr)(E:zAY (λb=>(Z b\/a.heap.size+1<b)/\b<wr.heap.size/\b≠a.heap.size) wr cs B)(n:(od.take (k+1)).map (zBF all od)=(od.take k).map (zBF all od)++[B]):
  wr.there a.heap.size (k*4) 4/\zKe a (wr.setCells a.heap.size (k*4) cs) Z all od (k+1):=by
 obtain⟨f,w,m,x,A,z,h,e⟩:=J;have i:=m.below d m.lt;have K:=E.size;obtain⟨u,F,G,H⟩:=size_setCells a.heap.size cs (k*4) wr;have q:zA (λb=>(Z b\/a.heap.size+1<b)/\b<wr.heap.size/\b≠a.heap.size) wr (wr.setCells a.heap.size (k*4) cs):=⟨F,G,H,Nat.le_of_eq u.symm,λb _ d=>zAN _ _ _ _ _ d.2.2⟩;refine⟨λj D=> ?_,zC0 f cs (k*4),w++[cs],i.setCells cs (k*4) wr f,?_,?_,?_,?_,?_⟩
 ·obtain⟨s,t⟩:=i.there (k*4+j) (by omega);rw[Nat.zero_add]at s t;exact⟨s,t⟩
 ·have:∀(C:List Value)(o:Nat)(c:Array Value),(zC0 c C o).size =c.size:=by
   intro C
   induction C with
   |nil=>intro o c;rfl
   |cons v r ih=>intro o c;unfold zC0;rw[ih];simp
  rw[this,x]
 ·apply List.ext_getElem?;intro j;rw[List.flatten_append,List.flatten_singleton,<-A];have y:(f.toList.take (k*4)).length =k*4:=by simp;omega
  by_cases D:j<(k+1)*4
  ·rw[List.getElem?_take_of_lt D,Array.getElem?_toList,zCJ _ _ _ (by omega) j];by_cases L:k*4<=j
   ·rw[if_pos (by omega),List.getElem?_append_right (by omega),y]
   rw[if_neg (by omega),List.getElem?_append_left (by omega),List.getElem?_take_of_lt (by omega),Array.getElem?_toList]
  rw[List.getElem?_eq_none (by simp;omega),List.getElem?_eq_none (by simp;omega)]
 ·rw[n]
  have s:zAY (λb=>(Z b\/a.heap.size+1<b)/\b<(wr.setCells a.heap.size (k*4) cs).heap.size /\b≠a.heap.size) (wr.setCells a.heap.size (k*4) cs) cs B:=by
   rw[u];exact E.keep q
  refine NdL.snoc s ?_;have t:=((z.keep (.of_below d)).mono (Z':=λb=>(Z b\/a.heap.size+1<b)/\b<wr.heap.size/\b≠a.heap.size) λb g=>⟨g.1,Nat.lt_of_lt_of_le g.2.1 d.size,g.2.2⟩).keep q;exact t.mono λb d=>by rw[u];exact d
 ·refine(h.below d h.lt).keep (Z:=λb=>b≠a.heap.size) ⟨F,G,H,Nat.le_of_eq u.symm,λb _ d=>zAN _ _ _ _ _ d⟩ (by omega)
 exact below_setCells (e.trans (d.mono e.size)) (Nat.le_refl _) _ _
theorem zKJ(ds:List zE)(all:List zB)(hg:Good ds all)(aq:all.length<=1000000)(M:Nat)(F Z:Nat->Prop)(i:Int)(w:World)(hi:Rng all i)(h:MkS w M all F Z):
  Calls prog 122 #[.pointer (some ⟨M,0,none⟩),.int .i64 i] w (zKI Z (zCw ds all i) w):=by
 have eg:=Tryz.egFrom1;have dm:= @run_makeMap prog;have hO:=zEI hg hi;have cy:=zDh (ds:=ds) (g:=all) i;have HO:=hid hO;have HG:=hid hg;have HM:=hid h;have HI:=hid hi;have HV:=hid (λP O Mv V pb B W hC hO=>zR2 ds all hg aq P O Mv V pb M B F Z (ds.length+1) i [] W hi (by omega) (by simp) (by simp) hC hO);obtain⟨bs,bt,bv,av,cf⟩:=zPy h;have J:=hid (And.intro bs (And.intro bt (And.intro bv (And.intro av cf))));clear hO hg h hi cy bs bt bv av cf;go_enter func122,ntmps122
 go_wp2_with fail
 refine(HV _ _ _ _ _ _ _ J.1 J.2.1).mono ?_;rintro e w1 ⟨rfl,bu,aj⟩;have bk:=hid (show zKH w1 (w.heap.size+1+1+1+1) (w.heap.size+1+1) (w.heap.size+1+1+1+1+1+1) (zBm ds all i) from bu);have HC:=hid (J.1.keep aj);have bx:=J.2.2.2.1.keep aj (by show _/\_/\_;omega);have d:=z8 (((zFb J.2.2.1)).trans (aj.mono λb _ G=>by show _/\_/\_;omega)) (Nat.le_refl _);have cg:=HC.size;have HB:=hid (And.intro bx (And.intro d cg));clear bu aj bx d J HV;have db:=hid HO.length_le;have dd:(zBm ds all i).length <=1000000:=Nat.le_trans HO.length_le aq;obtain⟨vo,o0,af,a3⟩:=bk.out;have oc:=o0.cell;have ol:=o0.lt;have bm:=hid (And.intro o0 (And.intro af a3));have m1:=HC.m.cell;have bg:=HC.m.lt;have p1:=HC.p.cell;have bh:=HC.p.lt;have x1:=HB.1.at0;have c6:=HB.1.frozen 0;have c7:=HB.1.lt;have bi:=hid (show zCw ds all i=if 4000<(zBm ds all i).length then([],2)else(zAr ds all i,0) from rfl);have ck:=hid (show zAr ds all i=(zBm ds all i).map (zBF all (zBm ds all i)) from rfl);generalize zBm ds all i=od at*;obtain⟨A,dh,rfl,-,-,a4⟩:=Row.of_own af (by decide);have bn:=hid a4;clear o0 af a3 bk a4;by_cases ar:4000<od.length
 ·have HE:=hid (bi.trans (if_pos ar));have cs:(4000:Int)<(od.length:Int):=by omega
  go_wp2;have hx:=(HB.1.set_ 0 (.slice none 0 0));have r0:(w1.setCell ⟨w.heap.size+1,0,none⟩ (.slice none 0 0)).cell? ⟨w.heap.size+1,0,none⟩=some (.slice none 0 0):=hx.cell 0;refine bodyPost_ret (v:= .tuple #[.agg #[.slice none 0 0],.int .i64 2]) (by simp[results,results122,go_sem,r0]) rfl ⟨.slice none 0 0,?_,?_,HB.2.1.setCell (by show w.heap.size<=w.heap.size+1;omega) _⟩
  ·rw[HE.out]
  rw[HE.out];exact⟨none,0,rfl,Nat.le_refl _,by decide,by decide,trivial⟩
 have HE:=hid (bi.trans (if_neg ar));have cs:¬(4000:Int)<(od.length:Int):=by omega
 obtain⟨_,i0,z0,b4,ci,ad,aw,cj⟩:=Tryz.eNode;have ca:=λW=>run_makeSlice (w:=W) 72 123 i0 z0 underlying72 b4 ci .i64 .i64 (od.length:Int) (od.length:Int) (by omega) (Int.le_refl _) (by rw[ad,Int.toNat_natCast];omega) (by rw[aw];omega) (by omega)
 have a9:=size_madeCells z0.cells (od.length*4);simp only[Int.toNat_natCast,ad]at ca;generalize madeCells z0.cells (od.length*4)=cz at*;clear b4 ci ad aw cj;have dg:=hid a9;have cw:od.length<=4000:=by omega
 go_wp2;have a5:=hid (zOe (Z:=Z) (all:=all) (HB.2.2) a9);clear ca a9 x1 c6 c7;go_loopw[29] (λix wr=>∃k:Nat,k<=od.length/\ix= .int .i64 k/\zKe w1 wr Z all od k) (λix _=>od.length-(intOf ix).toNat);case atStart=>exact⟨0,Nat.zero_le _,rfl,a5⟩
 case round=>
  rename World=>s
  obtain⟨k,hk,rfl,hL⟩:=hrel;by_cases H:k<od.length
  ·obtain⟨ob,df,rfl,-,cc⟩:=bn (by intro e;rw[List.map_eq_nil_iff]at e;rw[e]at H;simp at H);have aa:=cc k (.int .i64 od[k]) (by simp[H]);have az:od[k]∈od:=List.getElem_mem H;have bf:=HO.rng od[k] az;have bj:=hid H;(have ax:(od.take (k+1)).map (zBF all od)=(od.take k).map (zBF all od)++[zBF all od od[k]]:=by rw[List.take_succ_eq_append_getElem H,List.map_append];rfl);have ao:=hid ax;generalize hx:od[k]=x at*;have HX:=hid hx;clear hx ax cc az;obtain⟨n,rfl⟩:=Int.eq_ofNat_of_zero_le bf.1;(have b7:n<all.length:=by have:=bf.2;omega);(have dp:(n:Int)<(all.length:Nat):=by omega);(have dn:(0:Int)<=(n:Int):=by omega);(have a0:zBF all od (n:Int)=⟨all[n].leaf,all[n].fact,all[n].cuts,all[n].kids.map (zA3 od)⟩:=by unfold zBF;rw[zCB b7]);obtain⟨br,bq,L,Y,N,I,D,d⟩:=hL;have de:=D.lt;obtain⟨g,dc,vc,vk,e2,cu,e3,e4,e5,e6,hf,b5,b6⟩:=(HC.maker.below d).node_at b7;have ag:=d.cell (p:=⟨w.heap.size,0,none⟩) bg;rw[m1]at ag;have a7:=brd d aa (lt_of_cell aa);have ah:=d.cell (p:=⟨w.heap.size+1+1+1,0,none⟩) bh;rw[p1]at ah;have l1:=lt_of_cell ag;have l2:=lt_of_cell a7;have l3:=lt_of_cell ah;have l4:=lt_of_cell e2;have l5:=lt_of_cell e3;have HN:=hid (And.intro hf (And.intro b5 b6));have cn:=hid (show zKe w1 s Z all od k from⟨br,bq,L,Y,N,I,D,d⟩);have HL:=hid (And.intro L (And.intro Y (And.intro N (And.intro I (And.intro D d)))));rw[a0]at ao;obtain⟨⟨AC,T,rfl,-,-,-,-⟩,-⟩:=b5;obtain⟨⟨AK,ap,rfl,-,-,cv,-⟩,-⟩:=b6;(have dk:all[n].kids.length <=17592186044416:=by omega);clear a0 bf cu hf cv L Y N I D d aa m1 bg p1 bh;generalize all[n]=a at*;have cl:=hid (λW(G:Bw s W)=>zPw Z (.slice AK a.kids.length ap) a.kids W (HN.2.2.keep (.of_below G)));(go_wp2_with fail);refine(cl _ (zG _ _)).mono ?_;rintro e w3 ⟨v3,rfl,z,a6⟩;have E:=(Blk.new s 123 #[.bool a.leaf,.int .i64 a.fact,.slice AC a.cuts.length T,.slice AK a.kids.length ap]).below a6 (by simp);have au:=zC (zG s _) a6;obtain⟨R,c,rfl,-,-,-⟩:=Row.of_own z (by decide);have x3:=E.at3;have c8:=E.frozen 3;have c9:=E.lt;have ac:=zXL (zIQ z (show s.heap.size+1<=_ by simp)) (w':=w3.setCell ⟨s.heap.size,3,none⟩ (.slice R a.kids.length c)) ((zA.refl (λb=>b≠s.heap.size) _).setCell (λ_ h=>h rfl) _) (λk hk e=>by have:=(z.lt k hk).1;simp at this;omega);have H4:=hid (And.intro (E.set_ 3 (.slice R a.kids.length c)) (And.intro (au.setCell (p:=⟨s.heap.size,3,none⟩) (Nat.le_refl _) (.slice R a.kids.length c)) ac));clear E au z ac a6;(go_upto_region 14 with(fail));generalize (w3.setCell ⟨s.heap.size,3,none⟩ (.slice R a.kids.length c))=w4 at*;have y3:=H4.1.at3;have da:=H4.1.lt;clear x3 c8 c9 e2 e3 e4 e5 e6 ag a7 ah l1 l2 l3 l4 l5;go_wp2;go_loopw[49] (λix wr=>∃x:Nat,x<=a.kids.length/\ix= .int .i64 x/\wr.ownsRow (s.heap.size+1) 3 1 (.slice R a.kids.length c) a.kids.length (((a.kids.take x).map (zA3 od)++a.kids.drop x).map (.int .i64))/\zA (λb=>(Value.slice R a.kids.length c).ownBlock ≠some b) w4 wr) (λix _=>a.kids.length-(intOf ix).toNat);case atStart=>exact⟨0,Nat.zero_le _,rfl,by simpa using H4.out.2.2,.refl _ _⟩
   case round=>
    obtain⟨x,hx,rfl,o,q⟩:=hrel;clear y3 da;by_cases al:x<a.kids.length
    ·have cr:∃C,R=some ⟨C,0,none⟩/\s.heap.size+1<=C:=by
      rcases o.2 with⟨_,h0⟩|⟨C,c',cur',hv,hge,_⟩
      ·omega
      injection hv with hv;exact⟨C,hv,hge⟩
     obtain⟨C,rfl,dj⟩:=cr
     have ch:(((a.kids.take x).map (zA3 od)++a.kids.drop x).map (Value.int .i64))[x]? =some (.int .i64 a.kids[x]):=by
      rw[List.getElem?_map,List.getElem?_append_right (by simp;omega)];simp[Nat.min_eq_left (Nat.le_of_lt al),al]
     obtain⟨ai,bz⟩:=zMM o ch;have a8:=lt_of_cell ai;have X:wr.cell? ⟨s.heap.size,3,none⟩=some (.slice (some ⟨C,0,none⟩) a.kids.length c):=q.cell (by show some C≠some s.heap.size;intro e;injection e with e;omega) (H4.1.cell 3)
     have ba:∀b,b<w1.heap.size->wr.heap[b]? =w1.heap[b]? :=λb G=>by
      have U:=HL.2.2.2.2.2;rw[q.block b (by have:=U.size;have:=H4.2.1.size;omega) (by show some C≠some b;intro e;injection e with e;have:=U.size;omega),H4.2.1.block b (by have:=U.size;omega),U.block b G]
     have hP:=HC.p.of_block (ba _ HC.p.lt);have ce:=hP.cell;have cx:=hP.lt;have b9:=bm.2.2.of_block (ba _ bm.2.2.lt);have a1:((a.kids.take (x+1)).map (zA3 od)++a.kids.drop (x+1)).map (Value.int .i64)=(((a.kids.take x).map (zA3 od)++a.kids.drop x).map (Value.int .i64)).set x (.int .i64 (zA3 od a.kids[x])):=zSf a.kids (zA3 od) al;have bo:=hid a1;have ab:wr.drew.ownsRow (s.heap.size+1) 3 1 (.slice (some ⟨C,0,none⟩) a.kids.length c) a.kids.length (((a.kids.take x).map (zA3 od)++a.kids.drop x).map (.int .i64)):=o;have ay:zA (λb=>(Value.slice (some ⟨C,0,none⟩) a.kids.length c).ownBlock ≠some b) w4 wr.drew:=q.drew;have bp:=hid (And.intro (zNb ab x (.int .i64 (zA3 od a.kids[x]))) (ay.setCell (p:=⟨C,x,none⟩) (λ_ h=>h rfl) (.int .i64 (zA3 od a.kids[x]))));have bw:=lt_of_cell X;have co:=hid (λ(W:World)(h:zS encI W (w.heap.size+1+1) (kvO od 0))=>(show(Instr.lookup 235 (.map (some (w.heap.size+1+1))) (.int .i64 a.kids[x]) false).run prog W= .ok (.int .i64 (zA3 od a.kids[x])) W from(Tryz.lookII h a.kids[x] false).trans (by rw[zPx])));clear o q ch ba hP a1 ab ay;generalize zA3 od a.kids[x]=px at*;generalize a.kids[x]=kx at*;go_wp2;refine zY 11 (λW=>W.cell? ⟨s.heap.size,3,none⟩=some (.slice (some ⟨C,0,none⟩) a.kids.length c)/\W.cell? ⟨w.heap.size+1+1+1,0,none⟩=some (.map (some (w.heap.size+1+1)))/\W.cell? ⟨C,x,none⟩=some (.int .i64 kx)/\zS encI W (w.heap.size+1+1) (kvO od 0)) (by kernel_rfl) ?_;have Q:(λW:World=>W.cell? ⟨s.heap.size,3,none⟩=some (.slice (some ⟨C,0,none⟩) a.kids.length c)/\W.cell? ⟨w.heap.size+1+1+1,0,none⟩=some (.map (some (w.heap.size+1+1)))/\W.cell? ⟨C,x,none⟩=some (.int .i64 kx)/\zS encI W (w.heap.size+1+1) (kvO od 0)) wr.drew:=⟨X,ce,ai,b9⟩;have b2:wr.drew.cell? ⟨C,x,none⟩=some (.int .i64 kx):=ai;have b0:wr.drew.frozen? ⟨C,x,none⟩=false:=bz;have b1:C<wr.drew.heap.size:=a8;clear ai bz a8 X ce b9 cx bw;generalize wr.drew=w6 at*
     (refine tkS 0 ?_ Q ?_ ?_;rotate_left;intro w f;obtain⟨U,h2,h3,h4⟩:=f;go_simp;(try with_reducible rfl);simp only[nr])
     (refine tkS 1 ?_ Q ?_ ?_;rotate_left;intro w f;obtain⟨U,h2,h3,h4⟩:=f;go_simp;(try with_reducible rfl);simp only[nr])
     (refine tkQ 2 Q ?_;simp only[nr])
     (refine tkS 3 ?_ Q ?_ ?_;rotate_left;intro w f;obtain⟨U,h2,h3,h4⟩:=f;go_simp;(try with_reducible rfl);simp only[nr])
     (refine tkS 4 ?_ Q ?_ ?_;rotate_left;intro w f;obtain⟨U,h2,h3,h4⟩:=f;go_simp;(try with_reducible rfl);simp only[nr])
     (refine tkS 5 ?_ Q ?_ ?_;rotate_left;intro w f;obtain⟨U,h2,h3,h4⟩:=f;go_simp;(try with_reducible rfl);simp only[nr])
     (refine tkQ 6 Q ?_;simp only[nr])
     (refine tkQ 7 Q ?_;simp only[nr])
     (refine tkS 8 ?_ Q ?_ ?_;rotate_left;intro w f;obtain⟨U,h2,h3,h4⟩:=f;go_simp;(try with_reducible rfl);simp only[nr])
     (refine tkS 9 ?_ Q ?_ ?_;rotate_left;intro w f;obtain⟨U,h2,h3,h4⟩:=f;have dl:=co _ h4;go_simp;(try with_reducible rfl);simp only[nr])
     (refine tkQ 10 Q ?_;simp only[nr])
     refine wS1 11 (λK hK=> ?_);(go_wp2_with fail);refine hK _ _ (Or.inl rfl) ?_;clear hK K Q b2 b0 b1
     (try simp only[nr])
     refine wSd ?_ _;go_wp2;go_roundw
     case rel=>
      refine⟨x+1,by omega,by go_num,?_,bp.2⟩;rw[bo.out];exact bp.1
     case measure=>simp[intOf];omega
    (obtain rfl:x=a.kids.length:=by omega);(have bc:∀b,b<=s.heap.size->(Value.slice R a.kids.length c).ownBlock ≠some b:=λb G e=>by have:=(o.lt b e).1;omega);have ak:Bw s wr:=H4.2.1.trans ⟨q.os,q.tape,q.output,q.size,λb G=>q.block b (by have:=H4.2.1.size;omega) (bc b (by omega))⟩;have t:=H4.1.keep q (bc _ (Nat.le_refl _));rw[List.take_length,List.drop_length,List.append_nil]at o
    have b8:zO (λb=>s.heap.size+1<=b/\b<wr.heap.size) wr (.slice R a.kids.length c) (a.kids.map (zA3 od)):=by
     refine(zO.of_own (xs:=a.kids.map (zA3 od)) o (λx hx=> ?_) (by rw[List.length_map];omega)).live;obtain⟨y,_,rfl⟩:=List.mem_map.1 hx;exact zR3 cw y
    have a2:=HL.2.2.2.2.1.lt
    have cb:zAY (λb=>(Z b\/w1.heap.size+1<b)/\b<wr.heap.size/\b≠w1.heap.size) wr [.bool a.leaf,.int .i64 a.fact,.slice AC a.cuts.length T,.slice R a.kids.length c] ⟨a.leaf,a.fact,a.cuts,a.kids.map (zA3 od)⟩:=
     ⟨_,_,rfl,HN.1,(HN.2.1.keep (.of_below ak)).live.mono λb G=>⟨Or.inl G.1,G.2,by have:=HM.liveZ b G.1;omega⟩,b8.mono λb G=>⟨Or.inr (by omega),G.2,by omega⟩⟩
    have bd:=zPz (all:=all) (od:=od) cn bj ak cb ao.out;have cq:=hid bd.2;have c0:=bd.1;have di:=t.at0;have ag:=t.at1;have a7:=t.at2;have ah:=t.at3;have b3:wr.cell? ⟨w1.heap.size+1,0,none⟩=some (.slice (some ⟨w1.heap.size,0,none⟩) od.length od.length):=(HL.2.2.2.2.1.below ak a2).cell 0;have ct:=lt_of_cell b3;have a8:=t.lt;have H:=bj.out;clear bc ak t o b8 cb bd q a2;go_wp2_with(refine wpList_store_mid rfl 123 (.tmp 68) (.tmp 67) rfl w1.heap.size (k*4) #[.bool a.leaf,.int .i64 a.fact,.slice AC a.cuts.length T,.slice R a.kids.length c] rfl rfl c0 Tryz.szN (by simp[Value.oneCell']) ?_);go_roundw;(case rel=>exact⟨k+1,by omega,by go_num,cq⟩);case measure=>simp[intOf];omega
  obtain rfl:k=od.length:=by omega
  obtain⟨br,bq,L,Y,N,I,D,d⟩:=hL;have b3:=D.at0;have ct:=D.lt;have ae:=HB.1.below d HB.1.lt;have dq:=ae.at0;have dr:=ae.frozen 0;have al:=ae.lt;have cd:=HC.size
  have HP:=hid (show zK (λb=>Z b\/w.heap.size<=b) (s.setCell ⟨w.heap.size+1,0,none⟩ (.slice (some ⟨w1.heap.size,0,none⟩) od.length od.length)) (.slice (some ⟨w1.heap.size,0,none⟩) od.length od.length) (zCw ds all i).1/\Bw w (s.setCell ⟨w.heap.size+1,0,none⟩ (.slice (some ⟨w1.heap.size,0,none⟩) od.length od.length)) from by
   have bb:(od.map (zBF all od)).length =od.length:=List.length_map _;refine⟨?_,(HB.2.1.trans (d.mono (by omega))).setCell (by show w.heap.size<=w.heap.size+1;omega) _⟩;rw[HE.out,ck.out];refine zK.keep (Z:=λb=>(Z b\/w1.heap.size<=b)) ?_ ((zA.refl _ _).setCell (λ_ h=> ?_) _) |>.mono λb G=>G.imp_right λh=>by omega
   ·refine⟨some ⟨w1.heap.size,0,none⟩,od.length,by rw[bb],by rw[bb];exact Nat.le_refl _,by omega,by rw[bb];omega,?_⟩;rw[List.take_length]at I;(refine NdL.rows (Or.inr (Nat.le_refl _)) (I.mono λb G=>G.1.imp_right λh=>by omega) λj u hu=> ?_);rw[Nat.zero_add,L.cell];rw[<-N,List.take_of_length_le (by simp;omega),Array.getElem?_toList]at hu;exact hu
   rcases h with h|h
   ·exact absurd (HM.liveZ _ h) (by show ¬(w.heap.size+1<w.heap.size);omega)
   simp at h;omega)
  have cm:=hid (show(zCw ds all i).2=0 from by rw[HE.out]);have cp:=hid ((ae.set_ 0 (.slice (some ⟨w1.heap.size,0,none⟩) od.length od.length)).cell 0);clear L Y N I D d ae m1 bg p1 bh cd;go_wp2;have r0:(s.setCell ⟨w.heap.size+1,0,none⟩ (.slice (some ⟨w1.heap.size,0,none⟩) od.length od.length)).cell? ⟨w.heap.size+1,0,none⟩=some (.slice (some ⟨w1.heap.size,0,none⟩) od.length od.length):=cp.out;refine bodyPost_ret (v:= .tuple #[.agg #[.slice (some ⟨w1.heap.size,0,none⟩) od.length od.length],.int .i64 0]) (by simp[results,results122,go_sem,r0]) rfl ⟨_,?_,HP.1,HP.2⟩;rw[cm.out]
end Go.Proofs.YtommaegelgilnaaGreatDoor
