/- Lemmas. -/
import Derived.Test.YtommaegelgilnaaGreatDoorM41
set_option linter.all false
namespace Go.Proofs.YtommaegelgilnaaGreatDoor
open Go.RowKit Go.Proofs.Tryz
set_option maxHeartbeats 8000000
set_option maxRecDepth 100000
variable {E Z:zD}{W w:World}{c l:List Int}{g:List zB}{i n o:Nat}{row:Option Nat}{s:zM}{st:zAH}{v:Value}
theorem zQ.differ{B0 B M:Nat}{l:List zF}(h:zQ E Z B0 w B M l s st)(P:Nat)(hP:Blk w P 68 #[.pointer (some ⟨B,0,none⟩)])(ao:¬E P){vf vg:Value}{f g:List zB}(hf:zK (λb=>¬E b) w vf f)(hg:zK (λb=>¬E b) w vg g):
  Calls prog 31 #[.agg #[vf],.agg #[vg],.pointer (some ⟨P,0,none⟩)] w (zNH E Z B0 B M l s (zER s.dom st.err f g).1 ⟨(zER s.dom st.err f g).2,st.built⟩ w):=by
 obtain⟨F,d,rfl,-⟩:=hf.open_;obtain⟨G,i,rfl,-⟩:=hg.open_;have o:Bw w (((w.alloc (.cells #[.slice F f.length d] 74)).alloc (.cells #[.slice G g.length i] 74)).alloc (.cells #[.slice none 0 0] 74)):=((zG w _).alloc (by simp) _).alloc (by simp;omega) _;have ax:=hid (((Blk.new w 74 #[.slice F f.length d]).alloc (.cells #[.slice G g.length i] 74)).alloc (.cells #[.slice none 0 0] 74));have ay:=hid ((zFW w (.cells #[.slice F f.length d] 74) 74 #[.slice G g.length i]).alloc (.cells #[.slice none 0 0] 74));have az:=hid (Blk.newE ((w.alloc (.cells #[.slice F f.length d] 74)).alloc (.cells #[.slice G g.length i] 74)) 74 #[.slice none 0 0] (n:=w.heap.size+1+1) (by simp));have a4:w.heap.size+1+1<(((w.alloc (.cells #[.slice F f.length d] 74)).alloc (.cells #[.slice G g.length i] 74)).alloc (.cells #[.slice none 0 0] 74)).heap.size :=by simp
 have aw:=hid (hP.below o hP.lt);have a1:P≠B/\P≠M/\P<w.heap.size:=⟨λe=>ao (e▸h.eb),λe=>ao (e▸h.em),hP.lt⟩;have m:=hid (h.more o (E':=λb=>E b\/b=w.heap.size+1+1) (λb c=> .inl c) (λb c=>c.imp id λe=>by omega));have ad:=hid (zQ.nodes_more hf o (E':=λb=>E b\/b=w.heap.size+1+1) (λb c=>c.imp id λe=>by omega));have q:=hid (zQ.nodes_more hg o (E':=λb=>E b\/b=w.heap.size+1+1) (λb c=>c.imp id λe=>by omega));have aq:=hid o;have aa:=hid (And.intro h.eb h.em);have HU:=hid (show zER s.dom st.err f g=zAt s.dom (zBH s.dom (zBH s.dom st.err f (zXP g)).2 g (zXP f)).2 (zBH s.dom st.err f (zXP g)).1 (zBH s.dom (zBH s.dom st.err f (zXP g)).2 g (zXP f)).1 from rfl);have a2:=h.bl;have a3:=(h.e M h.em).1;clear o hf hg h hP;generalize zER s.dom st.err f g=U at*;go_enter func31,ntmps31
 go_upto_region 1 with fail
 generalize (((w.alloc _).alloc _).alloc _)=X at*
 have H:=hid (λ(W:World)(hW:zA (λb=>b≠B/\b≠M) X W)=>(show W.cell? ⟨w.heap.size,0,none⟩=some (.slice F f.length d)/\w.heap.size<W.heap.size/\W.cell? ⟨w.heap.size+1,0,none⟩=some (.slice G g.length i)/\w.heap.size+1<W.heap.size/\W.cell? ⟨P,0,none⟩=some (.pointer (some ⟨B,0,none⟩))/\P<W.heap.size from by
  have h1:=ax.keep hW ⟨by omega,by omega⟩;have h2:=ay.keep hW ⟨by omega,by omega⟩;have h3:=aw.keep hW ⟨by omega,by omega⟩
  exact⟨h1.at0,h1.lt,h2.at0,h2.lt,h3.at0,h3.lt⟩))
 refine zY 12 (λW=>zA (λb=>b≠B/\b≠M) X W) (by kernel_rfl) ?_;have O:zA (λb=>b≠B/\b≠M) X X.drew:=(zA.refl _ _).drew;have C:(λW=>zA (λb=>b≠B/\b≠M) X W) X.drew:=O;have L:=hid (m.below (Below.refl _ _).drew);have ab:=hid (ad.keep (zA.refl _ _).drew);have J:=hid (q.keep (zA.refl _ _).drew);clear m ad q;generalize X.drew=x0 at*
 (refine tkS 0 ?_ C ?_ ?_;rotate_left;intro w a;obtain⟨Y,al,b0,bl,c0,cl⟩:=H _ a;clear a;go_simp;(try with_reducible rfl);simp only[nr])
 try simp only[nq]
 (refine tkS 1 ?_ C ?_ ?_;rotate_left;intro w a;obtain⟨Y,al,b0,bl,c0,cl⟩:=H _ a;clear a;go_simp;(try with_reducible rfl);simp only[nr])
 try simp only[nq]
 (refine tkS 2 ?_ C ?_ ?_;rotate_left;intro w a;obtain⟨Y,al,b0,bl,c0,cl⟩:=H _ a;clear a;go_simp;(try with_reducible rfl);simp only[nr])
 try simp only[nq]
 (refine tkS 3 ?_ C ?_ ?_;rotate_left;intro w a;obtain⟨Y,al,b0,bl,c0,cl⟩:=H _ a;clear a;go_simp;(try with_reducible rfl);simp only[nr])
 try simp only[nq]
 (refine tkS 6 ?_ C ?_ ?_;rotate_left;intro w a;obtain⟨Y,al,b0,bl,c0,cl⟩:=H _ a;clear a;go_simp;(try with_reducible rfl);simp only[nr])
 try simp only[nq]
 (refine tkS 7 ?_ C ?_ ?_;rotate_left;intro w a;obtain⟨Y,al,b0,bl,c0,cl⟩:=H _ a;clear a;go_simp;(try with_reducible rfl);simp only[nr])
 try simp only[nq]
 (refine tkS 8 ?_ C ?_ ?_;rotate_left;intro w a;obtain⟨Y,al,b0,bl,c0,cl⟩:=H _ a;clear a;go_simp;(try with_reducible rfl);simp only[nr])
 try simp only[nq]
 clear C;refine wS1 4 (λK j=> ?_);go_wp2_with fail
 refine(zGY J λb c=>(L.e b c).1).mono ?_;rintro e x1 ⟨A1,c1,rfl,k,c⟩;have Q:=O.trans (.of_below c);have u:=hid (L.below c);have ah:=hid k;have I:=hid (ab.keep (.of_below c));have ae:=hid (J.keep (.of_below c));refine j _ _ (Or.inr Q) ?_;clear j K k c L ab J O
 (try simp only[nr])
 refine wS1 5 (λK j=> ?_);go_wp2_with fail
 refine(u.and I ah).mono ?_;rintro e x2 ⟨A2,c2,rfl,k,D,t⟩;have R:=Q.trans t;have ac:=hid (I.keep (u.keeps t));have af:=hid (ae.keep (u.keeps t));have N:=hid D;have ai:=hid k;refine j _ _ (Or.inr R) ?_;clear j K k D t u I ae ah Q
 (try simp only[nr])
 generalize zBH s.dom st.err f (zXP g)=R1 at*;refine wS1 9 (λK j=> ?_);go_wp2_with fail
 refine(zGY ac λb c=>(N.e b c).1).mono ?_;rintro e x3 ⟨A3,c3,rfl,k,c⟩;have T:=R.trans (.of_below c);have m:=hid (N.below c);have aj:=hid k;have z:=hid (ai.keep (.of_below c));have q:=hid (af.keep (.of_below c));refine j _ _ (Or.inr T) ?_;clear j K k c N ac af ai R
 (try simp only[nr])
 refine wS1 10 (λK j=> ?_);go_wp2_with fail
 refine(m.and q aj).mono ?_;rintro e x4 ⟨A4,c4,rfl,k,D,t⟩;have V:=T.trans t;have A:=hid (z.keep (m.keeps t));have ag:=hid D;have ak:=hid k;refine j _ _ (Or.inr V) ?_;clear j K k D t m q aj z T
 (try simp only[nr])
 generalize zBH s.dom R1.2 g (zXP f)=R2 at*;refine wS1 11 (λK j=> ?_);go_wp2_with fail
 refine(ag.union A ak).mono ?_;rintro e x5 ⟨A5,c5,rfl,k,D,t⟩;have y:=V.trans t;have au:=hid D;have av:=hid k;refine j _ _ (Or.inr y) ?_;clear j K k D t ag ak A V
 (try simp only[nr])
 have x:=hid (az.keep y ⟨by omega,by omega⟩);have ar:=hid y;clear y;have q0:=x.at0;have qf:=x.frozen 0;have ql:=x.lt;refine wS1 12 (λK j=> ?_);go_wp2_with fail
 refine j _ _ (Or.inl rfl) ?_;clear j K;try simp only[nq]
 refine wSd ?_ _;go_wp2_with fail
 have hU:=HU.out;subst hU;generalize zAt s.dom R2.2 R1.1 R2.1=U at*;have hB:=x.set_ 0 (.slice A5 U.1.length c5);have q1:=hB.at0;refine bodyPost_ret (v:= .agg #[.slice A5 U.1.length c5]) (by simp[results,results31,go_sem,q1]) rfl ?_;have ap:zA (λb=>b≠w.heap.size+1+1) x5 (x5.setCell ⟨w.heap.size+1+1,0,none⟩ (.slice A5 U.1.length c5)):=(zA.refl _ _).setCell (λ_ h=>h rfl) _;have a:zA (λb=>b≠B/\b≠M) w (x5.setCell ⟨w.heap.size+1+1,0,none⟩ (.slice A5 U.1.length c5)):=(((zA.of_below aq).trans ar).setCell (λh _=>by simp at h;omega) _);refine⟨A5,c5,rfl,(av.keep (ap.mono λb _ c e=>c (.inr e))).mono λb c he=>c (.inl he),(au.gen (ap.mono λb _ c=> ?_)).less (λb c=> .inl c) aa.1 aa.2,a⟩;rcases c with c|c|c
 ·exact λe=>c (.inr e)
 ·omega
 omega
section
open Go.Shelf
def zCu(l:List Int)(i:Nat):Int × Int:=(zx l).getD i (0,0)
def zNI(l:List Int)(x:Fin (zx l).length):Array Value:=#[.int .i64 (zCu l x.1).1,.int .i64 (zCu l x.1).2]
theorem zHV(x:Int)(r:List Int):zx (x::r)=(x::r).map (λy=>(x,y))++zx r:=rfl
structure zCl (l:List Int) (i o:Nat):Prop where
 n:o+(zx (l.drop i)).length =(zx l).length
 d:(zx l).drop o=zx (l.drop i)
theorem zCl.zero(l:List Int):zCl l 0 0:=⟨by simp,by simp⟩
theorem zCl.next(h:zCl l i o)(hi:i<l.length):zCl l (i+1) (o+(l.length-i)):=by
 have a:l.drop i=l[i]::l.drop (i+1):=List.drop_eq_getElem_cons hi;have b:(l.drop i).length =l.length-i:=List.length_drop;refine⟨?_,?_⟩
 ·have:=h.n;rw[a,zHV,List.length_append,List.length_map,<-a,b]at this;omega
 rw[<-List.drop_drop,h.d,a,zHV,List.drop_append_of_le_length (by rw[List.length_map,<-a,b];exact Nat.le_refl _),List.drop_of_length_le (by rw[List.length_map,<-a,b];exact Nat.le_refl _),List.nil_append]
theorem zCl.lt{i o j:Nat}(h:zCl l i o)(hi:i<l.length)(a:j<l.length-i):o+j<(zx l).length :=by
 have:=(h.next hi).n;omega
theorem zCl.at_{i o j:Nat}(h:zCl l i o)(hi:i<l.length)(c:j<l.length-i):zCu l (o+j)=(l[i],l[i+j]'(by omega)):=by
 have a:l.drop i=l[i]::l.drop (i+1):=List.drop_eq_getElem_cons hi;have e:(l.drop i).length =l.length-i:=List.length_drop;unfold zCu;have b:(zx l)[o+j]? =(zx (l.drop i))[j]? :=by rw[<-h.d,List.getElem?_drop]
 rw[List.getD_eq_getElem?_getD,b,a,zHV,List.getElem?_append_left (by rw[List.length_map,<-a,e];exact c),List.getElem?_map,<-a,List.getElem?_drop,List.getElem?_eq_getElem (by omega)];rfl
theorem zCl.end_(h:zCl l i o)(hi:l.length<=i):o=(zx l).length :=by
 have:=h.n;rw[List.drop_of_length_le hi]at this;simpa[zx]using this
attribute [local go_sem] Oper.semAt_some
theorem zSJ(F:Fence)(n:Nat)(h:F.fn 67)(M:F.round=none)(hn:1<=n)(Z:zD)(l Bs:Nat)(A:Option Addr)(cap:Nat)(xs:List Int)(D:xs.length<=1000000)(I:Z Bs)(J Jx:List (Fin (zx xs).length)->World->Prop)
  (hY:∀a x W,J a W->a.length<(zx xs).length ->YieldAt F (n-1) prog l (zNI xs x) W λe W'=>
   (e= .returned (.bool true)/\J (a++[x]) W'/\zA Z W W')\/(e= .returned (.bool false)/\Jx (a++[x]) W'))
  (W:World)(t:W.cell? ⟨Bs,0,none⟩=some (.slice A xs.length cap))(X:xs.length<=cap)(V:cap<=9223372036854775807)(U:∀k(hk:k<xs.length),∃b d,A=some ⟨b,d,none⟩/\Z b/\W.cell? ⟨b,d+k,none⟩=some (.int .i64 xs[k]))(h0:J [] W):
  CallsIn F n prog 67 #[.func (.yield l) #[] #[],.pointer (some ⟨Bs,0,none⟩)] W λe W'=>(∃v,e= .returned v)/\
   ((∃ys,ys=zCq (zx xs).length (zx xs).length /\J ys W')\/(∃a,(∃k,k<=(zx xs).length /\a=zCq (zx xs).length k)/\Jx a W')):=by
 refine callsIn_of_wp func67 rfl h ?_ M;simp only[ntmps67,List.size_toArray,List.length_cons,List.length_nil,Nat.reduceAdd,Nat.reduceSub,Array.replicate_succ,Array.replicate_zero,List.push_toArray,List.append_toArray,List.nil_append,List.cons_append];have s:=hid U;clear U;have af:=lt_of_cell t
 gi_wp2
 gi_loopw [3,4,6,9] (λ_ _ _ i wr=>∃k o:Nat,k<=xs.length/\i= .int .i64 (k:Int)/\Hid (zCl xs k o)/\o<=(zx xs).length /\J (zCq (zx xs).length o) wr/\zA Z W wr)
  (λ_ _ _ i _=>xs.length-(intOf i).toNat)
 case atStart=>exact⟨0,0,Nat.zero_le _,rfl,zCl.zero _,Nat.zero_le _,h0,zA.refl _ _⟩
 case round=>
  obtain⟨k,o,hk,rfl,c,ag,w,q⟩:=hrel;by_cases f:k<xs.length
  ·obtain⟨b,d,rfl,C,R⟩:=s k f;have P:=q.cell (p:=⟨Bs,0,none⟩) I t;have O:=q.cell (p:=⟨b,d+k,none⟩) C R;have z:=lt_of_cell P;have L:=lt_of_cell O;(have ad:(k:Int)<(xs.length:Int):=by omega);have ae:(k:Int)<=(cap:Int):=by omega
   gi_wp2
   gi_loopw [6,18] (λ_ i wq=>∃j:Nat,j<=xs.length-k/\i= .int .i64 (j:Int)/\J (zCq (zx xs).length (o+j)) wq/\zA Z W wq)
    (λ_ i _=>(xs.length-k)-(intOf i).toNat)
   case atStart=>exact⟨0,Nat.zero_le _,rfl,w,q⟩
   case round=>
    obtain⟨j,hj,rfl,u,m⟩:=hrel;clear P O z L;by_cases B:j<xs.length-k
    ·obtain⟨b',aa,E,-,T⟩:=s (k+j) (by omega);injection E with E;injection E with eb eo;subst eb eo;have Q:=m.cell (p:=⟨b,d+(k+j),none⟩) C T;have Y:=lt_of_cell Q;rw[<-Nat.add_assoc]at Q;have H:=c.lt f B;have HP:=hid (c.at_ f B);have N:=hid (zIj H);obtain⟨fn,ab,assign,body,hy,hR⟩:=hY _ ⟨o+j,H⟩ _ u (by rw[zE5 (by omega)];exact H);dsimp only[zNI]at hy;rw[HP.out]at hy;(have ac:(j:Int)<((xs.length-k:Nat):Int):=by omega);clear T R;generalize xs[k]=x1 at*;generalize xs[k+j]'(by omega)=x2 at*
     gi_wp2
     refine hR.mono ?_;rintro e W3 (⟨rfl,G,K⟩|⟨rfl,y⟩)
     ·gi_wp2
      go_roundw;(case rel=>exact⟨j+1,by omega,by go_num,by rw[<-Nat.add_assoc,N.out];exact G,m.trans K⟩);case measure=>simp[intOf];omega
     gi_wp2
     refine bodyPost_ret (results_none rfl _ _ _) rfl ?_;exact⟨⟨_,rfl⟩,.inr ⟨_,⟨o+j+1,by omega,N.symm⟩,y⟩⟩
    (obtain rfl:j=xs.length-k:=by omega);have g:=c.next f
    gi_wp2
    go_roundw;(case rel=>exact⟨k+1,o+(xs.length-k),by omega,by go_num,g,by have:=g.n;omega,u,m⟩);case measure=>simp[intOf];omega
  obtain rfl:k=xs.length:=by omega
  have he:=c.end_ (Nat.le_refl _);subst he
  gi_wp2
  go_end0;exact⟨⟨_,rfl⟩,.inl ⟨_,rfl,w⟩⟩
theorem zSK(A:Option Addr)(a cap:Nat)(w:World):
  Calls prog 35 #[.slice A a cap] w λe w'=>e= .returned (.func (.func 67) #[] #[.pointer (some ⟨w.heap.size,0,none⟩)])/\w'=w.alloc (.cells #[.slice A a cap] 33):=by
 have c:∀(b:Fn)(first cap:Array Value)(w:World),(Instr.makeFunc b first cap).run prog w= .ok (.func b first cap) w:=λ_ _ _ _=>rfl
 go_enter func35,ntmps35
 go_wp2_with fail
 go_ret;exact⟨rfl,rfl⟩
theorem zPD(F:Fence)(n:Nat)(h:F.fn 67)(m:F.round=none)(z:1<=n)(Z:zD)(Bs:Nat)(A:Option Addr)(cap:Nat)(xs:List Int)(a:xs.length<=1000000)(w:World)(g:Bs<w.heap.size)(i:Z Bs)
  (y:w.cell? ⟨Bs,0,none⟩=some (.slice A xs.length cap))(f:xs.length<=cap)(d:cap<=9223372036854775807)(u:∀k(s:k<xs.length),∃b c,A=some ⟨b,c,none⟩/\Z b/\b<w.heap.size/\w.cell? ⟨b,c+k,none⟩=some (.int .i64 xs[k])):
  SeqStopsK F n prog 67 #[.pointer (some ⟨Bs,0,none⟩)] (zNI xs) (zA Z) (λys=>ys=zCq (zx xs).length (zx xs).length)
   (λo=>∃k,k<=(zx xs).length /\o=zCq (zx xs).length k) (zx xs).length w:=λl J Jx W q _ _ v t=>
 zSJ F n h m z Z l Bs A cap xs a i J Jx v W (brd q y g) f d (λk s=>by
  obtain⟨b,c,e,B,x,j⟩:=u k s
  exact⟨b,c,e,B,brd q j x⟩) t
end
section
open Go.Shelf
section kept
variable {W W':World} {row:Option Nat} {Z:zD} (hg:W.grownBy W' row) (hr:∀r,row=some r->∃o:Obj,W.heap[r]? =some o/\o.isCells=false)
include hg hr
theorem zIP{xs:List Int}(h:zO Z W v xs):zO Z W' v xs:=by
 obtain⟨⟨a,d,e,i,k,m,c⟩,o⟩:=h;refine⟨⟨a,d,e,i,k,m,λf=> ?_⟩,o⟩;obtain⟨b,g,e,s,n⟩:=c f;exact⟨b,g,e,s,λj u q=>cell_kept (n j u q) hg hr⟩
theorem zJt:∀{f:List zB}{A:Option Addr},zAW (zAY Z W) 4 Z W f A->zAW (zAY Z W') 4 Z W' f A
 |[],_,_=>trivial
 | _::_,_,h=>by
  obtain⟨b,d,cs,e,n,g,⟨o,q,rfl,i,a,c⟩,k⟩:=h;exact⟨b,d,_,e,n,λj u m=>cell_kept (g j u m) hg hr,⟨o,q,rfl,i,zIP hg hr a,zIP hg hr c⟩,zJt k⟩
theorem zPE(h:zK Z W v g):zK Z W' v g:=by
 obtain⟨A,a,rfl,b,c,d,e⟩:=h;exact⟨A,a,rfl,b,c,d,zJt hg hr e⟩
theorem zJu{l:List ByteArray}(h:Names Z W v l):Names Z W' v l:=by
 obtain⟨⟨a,d,e,i,k,m,c⟩,o⟩:=h;refine⟨⟨a,d,e,i,k,m,λf=> ?_⟩,o⟩;obtain⟨b,g,e,s,n⟩:=c f;exact⟨b,g,e,s,λj u q=>cell_kept (n j u q) hg hr⟩
theorem zLX{d:zGL}(h:zFJ Z W v d):zFJ Z W' v d:=by
 obtain⟨v1,v2,e,a,b⟩:=h;exact⟨v1,v2,e,zJu hg hr a,zJu hg hr b⟩
end kept
theorem zQ.kept{j B M n:Nat}{W q:World}{l:List zF}(h:zQ E Z j W B M l s st)(a:W.grownBy q row)(m:∀r,row=some r->n<=r/\∃o:Obj,W.heap[r]? =some o/\o.isCells=false)(Q:M<n)(F:∀b,Z b->b<n)(D:j<=n):zQ E Z j q B M l s st:=by
 have f:=h.low;obtain⟨⟨O,N,K,P,L,w,x,y⟩,⟨I,u,J⟩,A,C,ne,z,e,t⟩:=h;have i:∀r,row=some r->∃o:Obj,W.heap[r]? =some o/\o.isCells=false:=λr e=>(m r e).2
 have c:zA Z W q:=(zA.refl _ _).grown a (λk c _ H=>by have:=(m k c).1;have:=F k H;omega)
 exact⟨⟨O,N,K,P,L,zBR w a i,zn.keep x c,y.keep c⟩,⟨I,u.of_block (a.block M u.lt λe=>by have:=(m M e.symm).1;omega),J.imp λv g G=>zPE a i G⟩,A,C,ne,
  λb d=>⟨Nat.lt_of_lt_of_le (z b d).1 a.size,(z b d).2⟩,λb d=>⟨Nat.lt_of_lt_of_le (e b d).1 a.size,(e b d).2⟩,t.on ((Below.refl j W).grown a f λk c=>by have:=(m k c).1;omega)⟩
structure zE7 (n0 P1 B1 P2 B2 F:Nat) (ca cb cs zc:Array Value) (W:World):Prop where
 a:Blk W n0 22 ca
 b:Blk W (n0+1) 22 cb
 s:Blk W (n0+1+1) 30 cs
 r3:Blk W (n0+1+1+1) 38 zc
 r4:Blk W (n0+1+1+1+1) 4 #[.bool false]
 r5:Blk W (n0+1+1+1+1+1) 39 #[.int .i64 0]
 r6:Blk W (n0+1+1+1+1+1+1) 38 zc
 p1:Blk W P1 68 #[.pointer (some ⟨B1,0,none⟩)]
 p2:Blk W P2 68 #[.pointer (some ⟨B2,0,none⟩)]
 f:Blk W F 75 #[.func (.func 31) #[] #[.pointer (some ⟨P1,0,none⟩)]]
def zHW(n0 P1 P2 F:Nat):zD:=λb=>(n0<=b/\b<=n0+6)\/b=P1\/b=P2\/b=F
section
variable {n0 P1 B1 P2 B2 F:Nat} {ca cb cs zc:Array Value} {W W':World}
theorem zE7.keep(h:zE7 n0 P1 B1 P2 B2 F ca cb cs zc W)(c:zA (zHW n0 P1 P2 F) W W'):zE7 n0 P1 B1 P2 B2 F ca cb cs zc W':=
 ⟨h.a.keep c (.inl ⟨by omega,by omega⟩),h.b.keep c (.inl ⟨by omega,by omega⟩),h.s.keep c (.inl ⟨by omega,by omega⟩),h.r3.keep c (.inl ⟨by omega,by omega⟩),h.r4.keep c (.inl ⟨by omega,by omega⟩),h.r5.keep c (.inl ⟨by omega,by omega⟩),h.r6.keep c (.inl ⟨by omega,by omega⟩),h.p1.keep c (.inr (.inl rfl)),h.p2.keep c (.inr (.inr (.inl rfl))),h.f.keep c (.inr (.inr (.inr rfl)))⟩
theorem zE7.below(h:zE7 n0 P1 B1 P2 B2 F ca cb cs zc W)(c:Bw W W'):zE7 n0 P1 B1 P2 B2 F ca cb cs zc W':=
 ⟨h.a.below c h.a.lt,h.b.below c h.b.lt,h.s.below c h.s.lt,h.r3.below c h.r3.lt,h.r4.below c h.r4.lt,h.r5.below c h.r5.lt,h.r6.below c h.r6.lt,h.p1.below c h.p1.lt,h.p2.below c h.p2.lt,h.f.below c h.f.lt⟩
theorem zE7.kept(h:zE7 n0 P1 B1 P2 B2 F ca cb cs zc W)(c:W.grownBy W' row)(d:∀r,row=some r->∃o:Obj,W.heap[r]? =some o/\o.isCells=false):zE7 n0 P1 B1 P2 B2 F ca cb cs zc W':=
 ⟨zBR h.a c d,zBR h.b c d,zBR h.s c d,zBR h.r3 c d,zBR h.r4 c d,zBR h.r5 c d,zBR h.r6 c d,zBR h.p1 c d,zBR h.p2 c d,zBR h.f c d⟩
end
def ES(B1 M1 B2 M2:Nat):zD:=λb=>b=B1\/b=M1\/b=B2\/b=M2
structure DiJ (w:World) (Z:zD) (n0 P1 B1 M1 P2 B2 M2 F:Nat) (ca cb cs zc:Array Value) (a b:List zF) (s:zM) (W:World) (X Y:zAH):Prop where
 x:zQ (ES B1 M1 B2 M2) Z n0 W B1 M1 a s X
 y:zQ (ES B1 M1 B2 M2) Z n0 W B2 M2 b s Y
 bx:zE7 n0 P1 B1 P2 B2 F ca cb cs zc W
 be:Below n0 w W
section
variable {w:World} {Z:zD} {n0 P1 B1 M1 P2 B2 M2 F n:Nat} {ca cb cs zc:Array Value} {a b:List zF} {s:zM} {W W':World} {X Y X' Y':zAH}
theorem DiJ.below(h:DiJ w Z n0 P1 B1 M1 P2 B2 M2 F ca cb cs zc a b s W X Y)(c:Bw W W'):DiJ w Z n0 P1 B1 M1 P2 B2 M2 F ca cb cs zc a b s W' X Y:=
 ⟨h.x.below c,h.y.below c,h.bx.below c,h.be.trans (c.mono h.x.low)⟩
theorem DiJ.kept(h:DiJ w Z n0 P1 B1 M1 P2 B2 M2 F ca cb cs zc a b s W X Y)(c:W.grownBy W' row)(d:∀r,row=some r->n<=r/\∃o:Obj,W.heap[r]? =some o/\o.isCells=false)(i:M1<n)(j:M2<n)(g:∀b,Z b->b<n)(f:n0<=n):DiJ w Z n0 P1 B1 M1 P2 B2 M2 F ca cb cs zc a b s W' X Y:=
 ⟨h.x.kept c d i g f,h.y.kept c d j g f,h.bx.kept c (λr e=>(d r e).2),h.be.grown c h.x.low (λk e=>by have:=(d k e).1;omega)⟩
theorem DiJ.callX(h:DiJ w Z n0 P1 B1 M1 P2 B2 M2 F ca cb cs zc a b s W X Y)(g:¬zHW n0 P1 P2 F B1/\¬zHW n0 P1 P2 F M1)(c:B2≠B1/\B2≠M1/\M2≠B1/\M2≠M1)(i:zQ (ES B1 M1 B2 M2) Z n0 W' B1 M1 a s X')(f:zA (λb=>b≠B1/\b≠M1) W W'):DiJ w Z n0 P1 B1 M1 P2 B2 M2 F ca cb cs zc a b s W' X' Y:=
 ⟨i,h.y.gen (f.mono λb _ d=>by
  rcases d with d|rfl|rfl
  ·exact⟨λe=>d (.inl e),λe=>d (.inr (.inl e))⟩
  ·exact⟨c.1,c.2.1⟩
  exact⟨c.2.2.1,c.2.2.2⟩),h.bx.keep (f.mono λb _ d=>⟨λe=>g.1 (e▸d),λe=>g.2 (e▸d)⟩),h.be.trans (z8 (f.mono λb _(d:b<n0)=>⟨λe=>by have:=(h.x.e B1 h.x.eb).2;omega,λe=>by have:=(h.x.e M1 h.x.em).2;omega⟩) h.x.low)⟩
theorem DiJ.callY(h:DiJ w Z n0 P1 B1 M1 P2 B2 M2 F ca cb cs zc a b s W X Y)(g:¬zHW n0 P1 P2 F B2/\¬zHW n0 P1 P2 F M2)(c:B1≠B2/\B1≠M2/\M1≠B2/\M1≠M2)(i:zQ (ES B1 M1 B2 M2) Z n0 W' B2 M2 b s Y')(f:zA (λb=>b≠B2/\b≠M2) W W'):DiJ w Z n0 P1 B1 M1 P2 B2 M2 F ca cb cs zc a b s W' X Y':=
 ⟨h.x.gen (f.mono λb _ d=>by
  rcases d with d|rfl|rfl
  ·exact⟨λe=>d (.inr (.inr (.inl e))),λe=>d (.inr (.inr (.inr e)))⟩
  ·exact⟨c.1,c.2.1⟩
  exact⟨c.2.2.1,c.2.2.2⟩),i,h.bx.keep (f.mono λb _ d=>⟨λe=>g.1 (e▸d),λe=>g.2 (e▸d)⟩),h.be.trans (z8 (f.mono λb _(d:b<n0)=>⟨λe=>by have:=(h.y.e B2 h.y.eb).2;omega,λe=>by have:=(h.y.e M2 h.y.em).2;omega⟩) h.x.low)⟩
end
def zOM(n0:Nat)(w W:World)(x:zHQ × Bool × Int):Prop:=
 ∃vc p q r t,Blk W (n0+1+1+1) 38 #[.int .i64 x.1.signed,.int .i64 x.1.now,vc,.int .i64 x.1.a.kind,p,q,.int .i64 x.1.b.kind,r,t]/\Blk W (n0+1+1+1+1) 4 #[.bool x.2.1]/\Blk W (n0+1+1+1+1+1) 39 #[.int .i64 x.2.2]/\
  zO (λb=>n0<=b) W vc x.1.cas/\zFJ (λb=>n0<=b) W (.agg #[.int .i64 x.1.a.kind,p,q]) x.1.a/\zFJ (λb=>n0<=b) W (.agg #[.int .i64 x.1.b.kind,r,t]) x.1.b/\Below n0 w W
theorem zOM.kept{c n:Nat}{w W d:World}{x:zHQ × Bool × Int}(h:zOM c w W x)(b:W.grownBy d row)(f:∀r,row=some r->n<=r/\∃o:Obj,W.heap[r]? =some o/\o.isCells=false)(A:c<=n)(y:c<=W.heap.size):zOM c w d x:=by
 have a:∀r,row=some r->∃o:Obj,W.heap[r]? =some o/\o.isCells=false:=λr e=>(f r e).2
 obtain⟨z,p,q,r,t,g,i,j,m,s,u,v⟩:=h;exact⟨z,p,q,r,t,zBR g b a,zBR i b a,zBR j b a,zIP b a m,zLX b a s,zLX b a u,v.grown b y (λk e=>by have:=(f k e).1;omega)⟩
end
def EQ(E:zD)(p:Bool)(Q:Nat):zD:=λb=>E b\/(p=true/\b=Q)
def eC(e0:Int)(D1 D2 D3:List zB × Int)(c:Nat):Int:=if c=0 then e0 else if c=1 then D1.2 else if c=2 then D2.2 else D3.2
structure R27 (E Z:zD) (n0 B1 M1:Nat) (W4 x:World) (a:List zF) (s:zM) (bu:List (Nat × List zB)) (e0:Int) (g1 g2 g3 g4:List zB) (v1 v2 v3 v4:Value) (D1 D2 D3:List zB × Int) (c:Nat) (p f:Bool) (u1 u2 u3 u26:Value) (Q:Nat):Prop where
 k:zA (λb=>b≠B1/\b≠M1) W4 x
 sm:zQ (EQ E p Q) Z n0 x B1 M1 a s ⟨eC e0 D1 D2 D3 c,bu⟩
 h1:zK (λb=>¬EQ E p Q b) x v1 g1
 h2:zK (λb=>¬EQ E p Q b) x v2 g2
 h3:zK (λb=>¬EQ E p Q b) x v3 g3
 h4:zK (λb=>¬EQ E p Q b) x v4 g4
 n1:1<=c->∃A k,u1= .agg #[.slice A D1.1.length k]/\zK (λb=>¬EQ E p Q b) x (.slice A D1.1.length k) D1.1
 n2:2<=c->∃A k,u2= .agg #[.slice A D2.1.length k]/\zK (λb=>¬EQ E p Q b) x (.slice A D2.1.length k) D2.1
 n3:3<=c->∃A k,u3= .agg #[.slice A D3.1.length k]/\zK (λb=>¬EQ E p Q b) x (.slice A D3.1.length k) D3.1
 bx:p=true->u26= .pointer (some ⟨Q,0,none⟩)/\W4.heap.size<=Q/\∃u,Blk x Q 74 #[u]/\(f=true->u3= .agg #[u])
 fp:f=true->p=true/\c=3
section
variable {E Z:zD} {n0 B1 M1:Nat} {W4 x x':World} {a:List zF} {s:zM} {bu:List (Nat × List zB)} {e0:Int} {g1 g2 g3 g4:List zB} {v1 v2 v3 v4:Value} {D1 D2 D3:List zB × Int} {c:Nat} {p f:Bool} {u1 u2 u3 u26:Value} {Q:Nat} {A:Option Addr} {k:Nat}
theorem R27.bx_keep(h:R27 E Z n0 B1 M1 W4 x a s bu e0 g1 g2 g3 g4 v1 v2 v3 v4 D1 D2 D3 c p false u1 u2 u3 u26 Q)(k:B1<W4.heap.size/\M1<W4.heap.size)(j:zA (λb=>b≠B1/\b≠M1) x x'){d:Value}:p=true->u26= .pointer (some ⟨Q,0,none⟩)/\W4.heap.size<=Q/\∃u,Blk x' Q 74 #[u]/\(false=true->d= .agg #[u]):=λe=>by
 obtain⟨f,g,u,i,-⟩:=h.bx e;exact⟨f,g,u,i.keep j ⟨by omega,by omega⟩,λe=>by cases e⟩
theorem R27.call0(h:R27 E Z n0 B1 M1 W4 x a s bu e0 g1 g2 g3 g4 v1 v2 v3 v4 D1 D2 D3 0 p false u1 u2 u3 u26 Q)(f:B1<W4.heap.size/\M1<W4.heap.size)(i:zQ (EQ E p Q) Z n0 x' B1 M1 a s ⟨D1.2,bu⟩)(d:zA (λb=>b≠B1/\b≠M1) x x')
  (g:zK (λb=>¬EQ E p Q b) x' (.slice A D1.1.length k) D1.1):R27 E Z n0 B1 M1 W4 x' a s bu e0 g1 g2 g3 g4 v1 v2 v3 v4 D1 D2 D3 1 p false (.agg #[.slice A D1.1.length k]) u2 u3 u26 Q:=by
 have c:=h.sm.keeps d;exact⟨h.k.trans d,i,h.h1.keep c,h.h2.keep c,h.h3.keep c,h.h4.keep c,λ_=>⟨A,k,rfl,g⟩,λe=>by omega,λe=>by omega,h.bx_keep f d,λe=>by cases e⟩
theorem R27.call1(h:R27 E Z n0 B1 M1 W4 x a s bu e0 g1 g2 g3 g4 v1 v2 v3 v4 D1 D2 D3 1 p false u1 u2 u3 u26 Q)(i:B1<W4.heap.size/\M1<W4.heap.size)(m:zQ (EQ E p Q) Z n0 x' B1 M1 a s ⟨D2.2,bu⟩)(d:zA (λb=>b≠B1/\b≠M1) x x')
  (j:zK (λb=>¬EQ E p Q b) x' (.slice A D2.1.length k) D2.1):R27 E Z n0 B1 M1 W4 x' a s bu e0 g1 g2 g3 g4 v1 v2 v3 v4 D1 D2 D3 2 p false u1 (.agg #[.slice A D2.1.length k]) u3 u26 Q:=by
 have c:=h.sm.keeps d;obtain⟨f,n,g,o⟩:=h.n1 (Nat.le_refl _);exact⟨h.k.trans d,m,h.h1.keep c,h.h2.keep c,h.h3.keep c,h.h4.keep c,λ_=>⟨f,n,g,o.keep c⟩,λ_=>⟨A,k,rfl,j⟩,λe=>by omega,h.bx_keep i d,λe=>by cases e⟩
theorem R27.call2(h:R27 E Z n0 B1 M1 W4 x a s bu e0 g1 g2 g3 g4 v1 v2 v3 v4 D1 D2 D3 2 p false u1 u2 u3 u26 Q)(m:B1<W4.heap.size/\M1<W4.heap.size)(o:zQ (EQ E p Q) Z n0 x' B1 M1 a s ⟨D3.2,bu⟩)(d:zA (λb=>b≠B1/\b≠M1) x x')
  (n:zK (λb=>¬EQ E p Q b) x' (.slice A D3.1.length k) D3.1):R27 E Z n0 B1 M1 W4 x' a s bu e0 g1 g2 g3 g4 v1 v2 v3 v4 D1 D2 D3 3 p false u1 u2 (.agg #[.slice A D3.1.length k]) u26 Q:=by
 have c:=h.sm.keeps d;obtain⟨f,q,i,u⟩:=h.n1 (by omega);obtain⟨g,t,j,v⟩:=h.n2 (by omega);exact⟨h.k.trans d,o,h.h1.keep c,h.h2.keep c,h.h3.keep c,h.h4.keep c,λ_=>⟨f,q,i,u.keep c⟩,λ_=>⟨g,t,j,v.keep c⟩,λ_=>⟨A,k,rfl,n⟩,h.bx_keep m d,λe=>by cases e⟩
theorem R27.alloc{m:Nat}(h:R27 E Z n0 B1 M1 W4 x a s bu e0 g1 g2 g3 g4 v1 v2 v3 v4 D1 D2 D3 c false false u1 u2 u3 u26 Q)(n:m=x.heap.size):R27 E Z n0 B1 M1 W4 (x.alloc (.cells #[.slice none 0 0] 74)) a s bu e0 g1 g2 g3 g4 v1 v2 v3 v4 D1 D2 D3 c true false u1 u2 u3 (.pointer (some ⟨m,0,none⟩)) m:=by
 subst n;have d:Bw x (x.alloc (.cells #[.slice none 0 0] 74)):=zG x _;have o:∀b,EQ E false Q b->EQ E true x.heap.size b:=λb d=> .inl (d.resolve_right λe=>by cases e.1)
 have q:∀b,EQ E true x.heap.size b->EQ E false Q b\/x.heap.size<=b:=λb d=>d.imp .inl λe=>by omega
 have f:∀{v:Value}{g:List zB},zK (λb=>¬EQ E false Q b) x v g->zK (λb=>¬EQ E true x.heap.size b) (x.alloc (.cells #[.slice none 0 0] 74)) v g:=λ{v g} hn=>zQ.nodes_more hn d q;refine⟨h.k.alloc _,h.sm.more d o (λb d=>d.imp .inl λe=>by simp;omega),f h.h1,f h.h2,f h.h3,f h.h4,λe=> ?_,λe=> ?_,λe=> ?_,λ_=>⟨rfl,h.k.size,_,Blk.new _ _ _,λe=>by cases e⟩,λe=>by cases e⟩
 ·obtain⟨A,k,i,j⟩:=h.n1 e;exact⟨A,k,i,f j⟩
 ·obtain⟨A,k,i,j⟩:=h.n2 e;exact⟨A,k,i,f j⟩
 obtain⟨A,k,i,j⟩:=h.n3 e;exact⟨A,k,i,f j⟩
theorem R27.store(h:R27 E Z n0 B1 M1 W4 x a s bu e0 g1 g2 g3 g4 v1 v2 v3 v4 D1 D2 D3 3 true false u1 u2 (.agg #[v]) u26 Q)(G:B1<W4.heap.size/\M1<W4.heap.size):R27 E Z n0 B1 M1 W4 (x.setCell ⟨Q,0,none⟩ v) a s bu e0 g1 g2 g3 g4 v1 v2 v3 v4 D1 D2 D3 3 true true u1 u2 (.agg #[v]) u26 Q:=by
 obtain⟨C,D,u,F,-⟩:=h.bx rfl;have f:zA (λb=>b≠Q) x (x.setCell ⟨Q,0,none⟩ v):=(zA.refl _ _).setCell (λ_ h=>h rfl) _;have c:zA (λb=>¬EQ E true Q b) x (x.setCell ⟨Q,0,none⟩ v):=f.mono λb _ d e=>d (.inr ⟨rfl,e⟩)
 obtain⟨i,t,n,z⟩:=h.n1 (by omega);obtain⟨j,w,o,A⟩:=h.n2 (by omega);obtain⟨m,y,q,B⟩:=h.n3 (by omega)
 have g:zA (λb=>b≠B1/\b≠M1) W4 (x.setCell ⟨Q,0,none⟩ v):=
  ⟨h.k.os,h.k.tape,h.k.output,by have:=h.k.size;have:=f.size;omega,λb d c=>(f.block b (Nat.lt_of_lt_of_le d h.k.size) (by omega)).trans (h.k.block b d c)⟩
 exact⟨g,h.sm.gen (f.mono λb _ d=>by
  rcases d with d|rfl|rfl
  ·exact λe=>d (.inr ⟨rfl,e⟩)
  ·omega
  omega),h.h1.keep c,h.h2.keep c,h.h3.keep c,h.h4.keep c,λ_=>⟨i,t,n,z.keep c⟩,λ_=>⟨j,w,o,A.keep c⟩,λ_=>⟨m,y,q,B.keep c⟩,λ_=>⟨C,D,v,F.set_ 0 v,λ_=>rfl⟩,λ_=>⟨rfl,rfl⟩⟩
theorem R27.done(h:R27 E Z n0 B1 M1 W4 x a s bu e0 g1 g2 g3 g4 v1 v2 v3 v4 D1 D2 D3 3 true true u1 u2 u3 u26 Q)(i:E B1)(j:E M1):∃A k,u26= .pointer (some ⟨Q,0,none⟩)/\W4.heap.size<=Q/\Blk x Q 74 #[.slice A D3.1.length k]/\zK (λb=>¬E b) x (.slice A D3.1.length k) D3.1/\zQ E Z n0 x B1 M1 a s ⟨D3.2,bu⟩:=by
 obtain⟨n,o,u,q,t⟩:=h.bx rfl;obtain⟨d,f,g,m⟩:=h.n3 (by omega)
 have e:u= .slice d D3.1.length f:=by
  have:=t rfl;rw[g]at this;simpa using this.symm
 subst e;exact⟨d,f,n,o,q,m.mono λb c he=>c (.inl he),h.sm.less (λb c=> .inl c) i j⟩
end
theorem zA.step{W x y:World}(h:zA Z W x)(a:zA (λb=>b≠n) x y)(e:W.heap.size<=n):zA Z W y:=
 ⟨a.os.trans h.os,a.tape.trans h.tape,a.output.trans h.output,Nat.le_trans h.size a.size,λb c d=>(a.block b (Nat.lt_of_lt_of_le c h.size) (by omega)).trans (h.block b c d)⟩
theorem zSL{g n:Nat}{cv:Value}(e:Blk W g 34 (List.replicate n cv).toArray)(h:Z g)(f:zO Z W cv c)(i:n<=1000):zDK Z W (.slice (some ⟨g,0,none⟩) n n) (List.replicate n c):=by
 have b:∀m a,a+m=n->zAW (zFC Z W) 1 Z W (List.replicate m c) (some ⟨g,a,none⟩):=by
  intro m
  induction m with
  |zero=>intro a _;trivial
  |succ m ih=>
  intro a k;rw[List.replicate_succ];refine⟨g,a,[cv],rfl,h,λj u d=> ?_,⟨cv,rfl,f⟩,ih (a+1) (by omega)⟩
  cases j with
  |zero=>
   rw[e.cell,List.getElem?_toArray,List.getElem?_replicate,if_pos (by omega)];exact d
  |succ j=>simp at d
 exact⟨_,n,by simp,by simp,by omega,by simp;omega,b n 0 (by omega)⟩
theorem zQp{Z Z':zD}{vd g i n e:Value}{sg nw:Int}(h:zBq Z W vd g i n s)(f:∀b,Z b->Z' b)(j:zDK Z' W e (List.replicate s.auths.length c))(k:I64 sg)(m:I64 nw):zBq Z' W vd g i e (zAv s sg nw c):=
 ⟨h.d.mono f,h.a.mono f,zj.mono (λh=>h.mono f) h.z f,j,k,m⟩
end Go.Proofs.YtommaegelgilnaaGreatDoor
