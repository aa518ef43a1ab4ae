/- Texts W74. -/
import Derived.Test.YthpocbeoanipbaaGreatDoorM29
set_option linter.all false
namespace Go.Proofs.YthpocbeoanipbaaGreatDoor
open Go.RowKit Go.Proofs.Tryz
set_option maxHeartbeats 8000000
set_option maxRecDepth 100000
variable{hi lo:Int}{i:Nat}{n:zB}
theorem Tryz.egAnd1:∀args w,(callFunc 109 args).run prog w= .ok (.enter 109 args) w:=enters_of func109 (by kernel_rfl) rfl
theorem zET{P:Program}{o:Oper}{a:Act}{w:World}{K:Act->World->Prop}{Q:Exit->Act->World->Prop}(ty:TypeId)(x y:Operand)(m:o.op= .store ty x y){g:Nat}{t:TypeId}{cs cells:Array Value}(n:a.eval x= .pointer (some ⟨g,0,none⟩))(q:a.eval y= .agg cells)
  (d:Blk w g t cs)(e:cs.size=cells.size)(hi:(P.info? ty).map (·.size)=some cells.size)(i:cells.all (·.oneCell')=true)
  (h:∀c,Blk c g t cells->zA (λb=>b≠g) w c->c.heap.size=w.heap.size->K (a.put o.dst undef) c):Oper.wp P o a w K Q:=by
 refine wp_store_mid ty x y m g 0 cells n q (e▸d.there) hi i ?_;obtain⟨f,s,u,v⟩:=size_setCells g cells.toList 0 w;refine h _ ?_ ⟨s,u,v,Nat.le_of_eq f.symm,λk _ j=>zBK g _ 0 w k j⟩ f;have:Blk (w.setCells g 0 cells.toList) g t (zCT cs cells.toList 0):=by first|exact Blk.setCells cells.toList 0 w cs d|exact Blk.setCells (w:=w) cells.toList 0 w cs d
 rwa[zKl (by simpa using e.symm),Array.toArray_toList]at this
theorem zVK{q:List Int}(j:∀v∈q,lo<v/\v<=hi):Lib.compact ((lo::q).mergeSort λa b=>decide (a<=b))=lo::zEV q:=by
 have g:((lo::q).mergeSort λa b=>decide (a<=b)).Pairwise (· <= ·):=by
  have:=List.pairwise_mergeSort (le:=λa b:Int=>decide (a<=b)) (λa b c f n=>by simp at f n⊢;omega) (λa b=>by simp;omega) (lo::q);exact this.imp λh=>by simpa using h
 obtain⟨f,n⟩:=zJn g;generalize Lib.compact ((lo::q).mergeSort λa b=>decide (a<=b))=L at*
 have d:∀v,v∈L↔(v=lo\/v∈q):=λv=>by
  rw[n,List.mem_mergeSort,List.mem_cons]
 have i:lo∈L:=(d _).2 (Or.inl rfl)
 cases L with
 |nil=>simp at i
 |cons a r=>
  have m:=f;rw[List.pairwise_cons]at f
  have o:a=lo:=by
   rcases(d a).1 (by simp)with h|h
   ·exact h
   ·rcases List.mem_cons.1 i with k|k
    ·exact k.symm
    ·have:=f.1 _ k;have:=(j _ h).1;omega
  subst o
  have s:∀v∈r,v<=hi:=λv e=>by
   rcases(d v).1 (List.mem_cons_of_mem _ e)with h|h
   ·have:=f.1 v e;omega
   ·exact(j v h).2
  congr 1;refine zK0 (zFX m s) (zGR j) λv=> ?_
  rw[zGQ];constructor
  ·intro e;rcases(d v).1 (List.mem_cons_of_mem _ e)with h|h
   ·have:=f.1 v e;omega
   ·exact h
  ·intro e;rcases List.mem_cons.1 ((d v).2 (Or.inr e))with h|h
   ·have:=(j v e).1;omega
   ·exact h
section
variable {c:AV} {AA AB D:Option Addr} {acap bcap dcap:Nat} {a b:List zB} {ds:List zC} {Zn:zE} {B0:Nat} {w:World} {st:ASt} {F Z:zE}
theorem zIu:∀{l:List Int}{lo hi:Int},zy lo hi l->lo<=hi->(l.length:Int)<=hi-lo
 |[],_,_,_,h=>by simp;omega
 |c::l,lo,hi,h,_=>by
  have:=zIu h.2.2 h.2.1;have:=h.1;simp only[List.length_cons];omega
def zEo(lo:Int)(pc qc:List Int)(j:Nat):List Int:=lo::((if 0<j then pc else[])++(if 1<j then qc else[]))
theorem zPR{a b:List Int}(j:Nat)(c:a.length<=1000000)(d:b.length<=1000000):(zEo lo a b j).length <=2000001:=by
 unfold zEo;rw[List.length_cons,List.length_append];split<;>split<;>simp<;>omega
def zAX(ds:List zC)(i:Nat)(n:zB):List Int:=if zP ds n=i then n.cuts else[]
theorem zMU(h:zP ds n=i->n.cuts≠[]/\zy lo hi n.cuts)(a:lo<=hi/\hi-lo<=1000000):(zAX ds i n).length <=1000000:=by
 unfold zAX;split
 ·rename_i e;have:=zIu (h e).2 a.1;omega
 ·simp
theorem zQ8{g:List zB}(e:Good ds g){x:Int}(j:Rng g x)(f:nAt g x=n)(hi:i<ds.length){b:zC}(d:fAt ds (i:Int)=b)(h:zP ds n=i):n.cuts≠[]/\zy b.lo b.hi n.cuts:=by
 subst f d
 have a:(nAt g x).kids ≠[]:=by
  intro a;unfold zP at h;rw[if_pos a]at h;omega
 have I:=e.inner j a;have c:(nAt g x).fact =i:=by unfold zP at h;rw[if_neg a]at h;exact h
 refine⟨I.cuts,?_⟩;have:=I.asc;rwa[c]at this
def bF(ds:List zC)(a b:List zB)(k:Nat)(x y i:Int)(v:Int)(st:ASt):Int × ASt:=zAZ ds a b k (zAG a x i v) (zAG b y i v) st
def zV9(ds:List zC)(a b:List zB)(k:Nat)(x y:Int)(st:ASt)(p q:zB):Int × ASt:=
 let r:=zQ (bF ds a b k x y (min (zP ds p) (zP ds q))) (zAB ds p q) st;let o:=zAT r.2.all (min (zP ds p) (zP ds q)) (zAB ds p q) r.1
 (o.1,⟨o.2,zCh r.2.done (x,y) o.1⟩)
theorem zVL(k:Nat)(x y:Int)(c:kvI st.done (x,y)=none){p q:zB}(d:nAt a x=p)(e:nAt b y=q):
  zAZ ds a b (k+1) x y st=if min (zP ds p) (zP ds q)=ds.length\/4000<st.all.length then((zo st.all ⟨p.leaf&&q.leaf,0,[],[]⟩).1,⟨(zo st.all ⟨p.leaf&&q.leaf,0,[],[]⟩).2,st.done⟩)else zV9 ds a b k x y st p q:=by
 subst d e;unfold zAZ;rw[c];rfl
theorem zSB{va vb vd:Value}(x y:Int)(h:zEn c va vb vd a b ds Zn B0 w st F Z){r:Int}(d:kvI st.done (x,y)=some r):
  Calls prog 109 (c.args x y) w (zIN c va vb vd w F Z (r,st)):=by
 have i:=Tryz.lookP h.mem.done x y;simp only[d,Option.isSome_some]at i;have j:=h.mem.dv.cell;have g:=h.mem.dv.lt;have f:=hid h.mem;clear h d;unfold AV.args;go_enter func109,ntmps109
 go_wp2;go_ret;exact⟨rfl,⟨F,Z,f.out,λb e=>Or.inl e,λb e=>Or.inl e⟩,zA.refl _ _⟩
theorem zEn.kid{va vb vd:Value}{o wr m:World}{f:ASt}{kids:List Int}{u:Value}{n Z':zE}(h:zEn c va vb vd a b ds Zn B0 w st F Z)(j:zA (c.kept F) w o)(i:AnL c va vb vd o wr F Z f kids u n Z')
  (g:Bw wr m)(s:zG0 f)(q:inn f.all<=4000+ds.length):zEn c va vb vd a b ds Zn B0 m f n Z':=by
 have t:=j.size;have v:=i.kept.size;have y:=g.size;have e:zA (c.kept F) w m:=j.trans (i.kept.trans (.of_below g))
 refine⟨i.mem.below g,h.na.keep (e.mono λb _ d=>(h.off b d).1),h.nb.keep (e.mono λb _ d=>(h.off b d).1),h.fs.keep (e.mono λb _ d=>(h.off b d).1),λx k=>⟨zF4 i.hF (h.off x k).1 (h.off x k).2 t,by have:=(h.off x k).2;omega⟩,
  h.tab.on (h.belowB e),⟨by have:=h.base.1;omega,λb d=> ?_,h.base.2.2⟩,s,q,h.ga,h.gb⟩
 rcases i.hF b d with d|d
 ·exact h.base.2.1 b d
 ·have:=h.base.1;omega
def zTS(c:AV)(va vb vd:Value)(a b:List zB)(ds:List zC)(Zn:zE)(B0 k:Nat):Prop:=
 ∀(x y:Int)(w:World)(st:ASt)(F Z:zE),Rng a x->Rng b y->ds.length-(min (zP ds (nAt a x)) (zP ds (nAt b y))).toNat <k->zEn c va vb vd a b ds Zn B0 w st F Z->
  Calls prog 109 (c.args x y) w (zIN c va vb vd w F Z (zAZ ds a b k x y st))
theorem zUY(k:Nat)(IH:zTS c (.slice AA a.length acap) (.slice AB b.length bcap) (.slice D ds.length dcap) a b ds Zn B0 k)(x y:Int)(hm:ds.length-(min (zP ds (nAt a x)) (zP ds (nAt b y))).toNat <k+1)(h:zEn c (.slice AA a.length acap) (.slice AB b.length bcap) (.slice D ds.length dcap) a b ds Zn B0 w st F Z)(hx:Rng a x)(hy:Rng b y)(eg:kvI st.done (x,y)=none):
  Calls prog 109 (c.args x y) w (zIN c (.slice AA a.length acap) (.slice AB b.length bcap) (.slice D ds.length dcap) w F Z (zAZ ds a b (k+1) x y st)):=by
 have Y:=hid h;have gn:=hid IH;have b4:=hid hm;have hl:=Tryz.lookP h.mem.done x y;simp only[eg,Option.isSome_none]at hl;clear IH hm;have gq:=hid eg;obtain⟨im,gu,g7,-,-,dp⟩:=h.na.open_;injection g7 with e1 e2 e3;subst e1 e3;clear e2;obtain⟨io,g0,g8,-,-,dq⟩:=h.nb.open_;injection g8 with e1 e2 e3;subst e1 e3;clear e2;obtain⟨A,rfl⟩:=Int.eq_ofNat_of_zero_le hx.1;obtain⟨C,rfl⟩:=Int.eq_ofNat_of_zero_le hy.1;have f9:A<a.length:=by have:=hx.2;omega
 have gc:C<b.length:=by have:=hy.2;omega
 obtain⟨ab,P,gw,gx,rfl,iq,c6,a0,a1,a2,a3,e7,b8,b9⟩:=dp A f9;obtain⟨bb,Q,g1,g2,rfl,ir,c9,b0,b1,b2,b3,fe,cd,ce⟩:=dq C gc;have d0:=h.mem.dv.cell;have g3:=h.mem.dv.lt;have v0:=h.mem.av.cell;have gg:=h.mem.av.lt;have u0:=h.mem.bv.cell;have gf:=h.mem.bv.lt;have ij:(A:Int)<(a.length:Int):=by omega
 have ik:(C:Int)<(b.length:Int):=by omega
 have co:nAt a (A:Int)=a[A]:=zBs f9;have cp:nAt b (C:Int)=b[C]:=zBs gc;have HP:=hid (show zAP Zn w [.bool a[A].leaf,.int .i64 a[A].fact,gw,gx] a[A] from⟨_,_,rfl,e7,b8,b9⟩);have HQ:=hid (show zAP Zn w [.bool b[C].leaf,.int .i64 b[C].fact,g1,g2] b[C] from⟨_,_,rfl,fe,cd,ce⟩);have HX:=hid (And.intro hx (And.intro hy (And.intro co cp)));have HU:=hid (zVL (ds:=ds) (a:=a) (b:=b) (st:=st) k A C gq.out co cp);have f3:=zFD h.ga.good hx;have f4:=zFD h.gb.good hy;rw[co]at f3;rw[cp]at f4;rw[co,cp]at b4;generalize a[A]=p at*;generalize b[C]=q at*;obtain⟨PU,I,rfl,-⟩:=b8.form;obtain⟨PK,H,rfl,-⟩:=b9.form;obtain⟨QU,L,rfl,-⟩:=cd.form;obtain⟨QK,J,rfl,-⟩:=ce.form;clear h eg dp dq e7 b8 b9 fe cd ce hx hy co cp;unfold AV.args;go_enter func109,ntmps109
 go_upto_region 4 with(fail)
 go_cut[13,14] from 33 to 42 (λvp vq wx=>∃bp bq,vp= .pointer (some ⟨bp,0,none⟩)/\vq= .pointer (some ⟨bq,0,none⟩)/\Blk wx bp 131 #[.bool p.leaf,.int .i64 p.fact,.slice PU p.cuts.length I,.slice PK p.kids.length H]/\Blk wx bq 131 #[.bool q.leaf,.int .i64 q.fact,.slice QU q.cuts.length L,.slice QK q.kids.length J]/\w.heap.size<=bp/\w.heap.size<=bq/\Bw w wx)
 case first=>
  refine zL 13 (λW=>Bw w W) (by kernel_rfl) ?_;have s:(λW=>Bw w W) w.drew:=(Below.refl _ _).drew
  have HC:=hid (λ(W:World)(O:Bw w W)=>(show W.cell? ⟨c.Av,0,none⟩=some (.slice (some ⟨ab,P,none⟩) a.length acap)/\W.cell? ⟨c.Bv,0,none⟩=some (.slice (some ⟨bb,Q,none⟩) b.length bcap)/\W.cell? ⟨ab,P+A*4,none⟩=some (.bool p.leaf)/\W.cell? ⟨ab,P+A*4+1,none⟩=some (.int .i64 p.fact)/\W.cell? ⟨ab,P+A*4+2,none⟩=some (.slice PU p.cuts.length I)/\W.cell? ⟨ab,P+A*4+3,none⟩=some (.slice PK p.kids.length H)/\
    W.cell? ⟨bb,Q+C*4,none⟩=some (.bool q.leaf)/\W.cell? ⟨bb,Q+C*4+1,none⟩=some (.int .i64 q.fact)/\W.cell? ⟨bb,Q+C*4+2,none⟩=some (.slice QU q.cuts.length L)/\W.cell? ⟨bb,Q+C*4+3,none⟩=some (.slice QK q.kids.length J) from
   ⟨brd O v0 gg,brd O u0 gf,brd O a0 c6,brd O a1 c6,brd O a2 c6,brd O a3 c6,
    brd O b0 c9,brd O b1 c9,brd O b2 c9,brd O b3 c9⟩))
  clear a0 a1 a2 a3 b0 b1 b2 b3 v0 u0
  (refine tkQ 0 s ?_;simp only[nr])
  (refine tkS 1 ?_ s ?_ ?_;rotate_left;intro w d;obtain⟨h0,X,h2,h3,h4,h5,h6,h7,h8,h9⟩:=HC.out _ d;clear d;go_simp;(try with_reducible rfl);simp only[nr])
  (refine tkQ 2 s ?_;simp only[nr])
  (refine tkQ 3 s ?_;simp only[nr])
  (refine tkS 4 ?_ s ?_ ?_;rotate_left;intro w d;obtain⟨h0,X,h2,h3,h4,h5,h6,h7,h8,h9⟩:=HC.out _ d;clear d;go_simp;(try with_reducible rfl);simp only[nr])
  (refine tkQ 5 s ?_;simp only[nr])
  (refine tkS 6 ?_ s ?_ ?_;rotate_left;intro w d;obtain⟨h0,X,h2,h3,h4,h5,h6,h7,h8,h9⟩:=HC.out _ d;clear d;go_simp;(try with_reducible rfl);simp only[nr])
  (refine tkQ 7 s ?_;simp only[nr])
  (refine tkQ 8 s ?_;simp only[nr])
  (refine tkS 9 ?_ s ?_ ?_;rotate_left;intro w d;obtain⟨h0,X,h2,h3,h4,h5,h6,h7,h8,h9⟩:=HC.out _ d;clear d;go_simp;(try with_reducible rfl);simp only[nr])
  clear HC;have s:Bw w w.drew:=s;generalize w.drew=x0 at*;refine wS2 10 11 (λK t=> ?_) (λK t=> ?_)
  ·(go_wp2_with fail);refine t _ _ (Or.inr (s.alloc s.size _)) ?_;clear t K
   (try simp only[nr])
   refine wS1 11 (λK t=> ?_);(go_wp2_with fail);refine t _ _ (Or.inr ((s.alloc s.size _).alloc (by have:=s.size;simp;omega) _)) ?_;clear t K
   (try simp only[nr])
   have ea:=(Blk.new x0 131 #[.bool false,.int .i64 0,.slice none 0 0,.slice none 0 0]).alloc (.cells #[.bool false,.int .i64 0,.slice none 0 0,.slice none 0 0] 131);have eb:=Blk.new' (x0.alloc (.cells #[.bool false,.int .i64 0,.slice none 0 0,.slice none 0 0] 131)) 131 #[.bool false,.int .i64 0,.slice none 0 0,.slice none 0 0] (n:=x0.heap.size+1) (by simp);have ar:Bw w ((x0.alloc (.cells #[.bool false,.int .i64 0,.slice none 0 0,.slice none 0 0] 131)).alloc (.cells #[.bool false,.int .i64 0,.slice none 0 0,.slice none 0 0] 131)):=(s.alloc s.size _).alloc (by have:=s.size;simp;omega) _;have ad:w.heap.size<=x0.heap.size:=s.size;(have ae:w.heap.size<=x0.heap.size+1:=by have:=s.size;omega);(have a9:x0.heap.size≠x0.heap.size+1:=by omega);generalize (x0.alloc (.cells #[.bool false,.int .i64 0,.slice none 0 0,.slice none 0 0] 131)).alloc (.cells #[.bool false,.int .i64 0,.slice none 0 0,.slice none 0 0] 131)=x2 at*;generalize x0.heap.size+1=nq at*;generalize x0.heap.size=np at*;refine wS1 12 (λK t=> ?_);refine zET 131 (.tmp 13) (.tmp 37) rfl rfl rfl ea rfl (by kernel_rfl) (by simp[Value.oneCell']) ?_;intro w4 R cj hg;have b7:Blk w4 nq 131 #[.bool false,.int .i64 0,.slice none 0 0,.slice none 0 0]:=eb.keep cj a9.symm;have bi:Bw w w4:=zd ar cj ad ar.size;refine t _ _ (Or.inr bi) ?_;clear t K
   (try simp only[nr])
   refine wS1 13 (λK t=> ?_);refine zET 131 (.tmp 14) (.tmp 42) rfl rfl rfl b7 rfl (by kernel_rfl) (by simp[Value.oneCell']) ?_;intro w5 a7 ck de;have em:Bw w w5:=zd bi ck ae bi.size;refine t _ _ (Or.inl rfl) ?_;clear t K
   (try simp only[nr])
   refine wSd ?_ _;(go_wp2_with fail);go_meet;exact⟨np,nq,rfl,rfl,R.keep ck a9,a7,ad,ae,em⟩
  ·(go_wp2_with fail);refine t _ _ (Or.inr (s.alloc s.size _)) ?_;clear t K
   (try simp only[nr])
   refine wS1 10 (λK t=> ?_);(go_wp2_with fail);refine t _ _ (Or.inr ((s.alloc s.size _).alloc (by have:=s.size;simp;omega) _)) ?_;clear t K
   (try simp only[nr])
   have eb:=(Blk.new x0 131 #[.bool false,.int .i64 0,.slice none 0 0,.slice none 0 0]).alloc (.cells #[.bool false,.int .i64 0,.slice none 0 0,.slice none 0 0] 131);have ea:=Blk.new' (x0.alloc (.cells #[.bool false,.int .i64 0,.slice none 0 0,.slice none 0 0] 131)) 131 #[.bool false,.int .i64 0,.slice none 0 0,.slice none 0 0] (n:=x0.heap.size+1) (by simp);have ar:Bw w ((x0.alloc (.cells #[.bool false,.int .i64 0,.slice none 0 0,.slice none 0 0] 131)).alloc (.cells #[.bool false,.int .i64 0,.slice none 0 0,.slice none 0 0] 131)):=(s.alloc s.size _).alloc (by have:=s.size;simp;omega) _;have ae:w.heap.size<=x0.heap.size:=s.size;(have ad:w.heap.size<=x0.heap.size+1:=by have:=s.size;omega);(have a9:x0.heap.size+1≠x0.heap.size:=by omega);generalize (x0.alloc (.cells #[.bool false,.int .i64 0,.slice none 0 0,.slice none 0 0] 131)).alloc (.cells #[.bool false,.int .i64 0,.slice none 0 0,.slice none 0 0] 131)=x2 at*;generalize x0.heap.size+1=np at*;generalize x0.heap.size=nq at*;refine wS1 12 (λK t=> ?_);refine zET 131 (.tmp 13) (.tmp 37) rfl rfl rfl ea rfl (by kernel_rfl) (by simp[Value.oneCell']) ?_;intro w4 R cj hg;have b7:Blk w4 nq 131 #[.bool false,.int .i64 0,.slice none 0 0,.slice none 0 0]:=eb.keep cj a9.symm;have bi:Bw w w4:=zd ar cj ad ar.size;refine t _ _ (Or.inr bi) ?_;clear t K
   (try simp only[nr])
   refine wS1 13 (λK t=> ?_);refine zET 131 (.tmp 14) (.tmp 42) rfl rfl rfl b7 rfl (by kernel_rfl) (by simp[Value.oneCell']) ?_;intro w5 a7 ck de;have em:Bw w w5:=zd bi ck ae bi.size;refine t _ _ (Or.inl rfl) ?_;clear t K
   (try simp only[nr])
   refine wSd ?_ _;(go_wp2_with fail);go_meet;exact⟨np,nq,rfl,rfl,R.keep ck a9,a7,ad,ae,em⟩
 case rest=>
  obtain⟨np,nq,rfl,rfl,da,dc,ad,ae,R⟩:=hcut;rename World=>w4
  obtain⟨mn,eh⟩:∃mn:Int,min (zP ds p) (zP ds q)=mn:=⟨_,rfl⟩;have cn:0<=mn/\mn<=ds.length:=by omega
  rw[eh]at HU;have f0:=brd R Y.out.mem.fv.cell Y.out.mem.fv.lt;have b6:=lt_of_cell f0;have eo:=hid (λ(W:World)(O:Bw w4 W)=>zMz Zn Zn p [.bool p.leaf,.int .i64 p.fact,.slice PU p.cuts.length I,.slice PK p.kids.length H] (.slice D ds.length dcap) ds W (HP.out.keep (.of_below (R.trans (O.mono R.size)))) (Y.out.fs.keep (.of_below (R.trans (O.mono R.size)))));have ep:=hid (λ(W:World)(O:Bw w4 W)=>zMz Zn Zn q [.bool q.leaf,.int .i64 q.fact,.slice QU q.cuts.length L,.slice QK q.kids.length J] (.slice D ds.length dcap) ds W (HQ.out.keep (.of_below (R.trans (O.mono R.size)))) (Y.out.fs.keep (.of_below (R.trans (O.mono R.size)))))
  have G:=hid (λ(W:World)(O:Bw w4 W)=>(show W.cell? ⟨np,0,none⟩=some (.bool p.leaf)/\W.cell? ⟨np,1,none⟩=some (.int .i64 p.fact)/\W.cell? ⟨np,2,none⟩=some (.slice PU p.cuts.length I)/\W.cell? ⟨np,3,none⟩=some (.slice PK p.kids.length H)/\
    W.cell? ⟨nq,0,none⟩=some (.bool q.leaf)/\W.cell? ⟨nq,1,none⟩=some (.int .i64 q.fact)/\W.cell? ⟨nq,2,none⟩=some (.slice QU q.cuts.length L)/\W.cell? ⟨nq,3,none⟩=some (.slice QK q.kids.length J)/\W.cell? ⟨c.Fv,0,none⟩=some (.slice D ds.length dcap) from by
   have X:=da.below O da.lt;have h2:=dc.below O dc.lt
   exact⟨X.cell 0,X.cell 1,X.cell 2,X.cell 3,h2.cell 0,h2.cell 1,h2.cell 2,h2.cell 3,brd O f0 b6⟩))
  have er:=hid (And.intro da (And.intro dc (And.intro ad (And.intro ae R))));clear da dc ad ae R f0 b6 a0 a1 a2 a3 b0 b1 b2 b3 v0 gg u0 gf d0 g3 hl;go_upto_region 5 with(fail)
  go_cut[15] from 43 to 49 (λvi wx=>vi= .int .i64 mn/\Bw w4 wx)
  case first=>
   refine zL 7 (λW=>Bw w4 W) (by kernel_rfl) ?_;have s:(λW=>Bw w4 W) w4.drew:=(Below.refl _ _).drew
   (refine tkS 0 ?_ s ?_ ?_;rotate_left;intro w d;obtain⟨h0,X,h2,h3,h4,h5,h6,h7,h8⟩:=G.out _ d;clear d;go_simp;(try with_reducible rfl);simp only[nr])
   (refine tkS 1 ?_ s ?_ ?_;rotate_left;intro w d;obtain⟨h0,X,h2,h3,h4,h5,h6,h7,h8⟩:=G.out _ d;clear d;go_simp;(try with_reducible rfl);simp only[nr])
   (refine tkS 3 ?_ s ?_ ?_;rotate_left;intro w d;obtain⟨h0,X,h2,h3,h4,h5,h6,h7,h8⟩:=G.out _ d;clear d;go_simp;(try with_reducible rfl);simp only[nr])
   (refine tkS 4 ?_ s ?_ ?_;rotate_left;intro w d;obtain⟨h0,X,h2,h3,h4,h5,h6,h7,h8⟩:=G.out _ d;clear d;go_simp;(try with_reducible rfl);simp only[nr])
   have s:Bw w4 w4.drew:=s;generalize w4.drew=x0 at*;refine wS1 2 (λK t=> ?_);(go_wp2_with fail);refine(eo.out _ s).mono ?_;rintro e x1 ⟨rfl,E⟩;have c0:Bw w4 x1:=s.trans (E.mono s.size);refine t _ _ (Or.inr c0) ?_;clear t K
   (try simp only[nr])
   refine wS1 5 (λK t=> ?_);(go_wp2_with fail);refine(ep.out _ c0).mono ?_;rintro e x2 ⟨rfl,c8⟩;have ar:Bw w4 x2:=c0.trans (c8.mono c0.size);refine t _ _ (Or.inr ar) ?_;clear t K
   (try simp only[nr])
   refine wS1 6 (λK t=> ?_);(go_wp2_with fail);refine t _ _ (Or.inr ar) ?_;clear t K
   (try simp only[nr])
   refine wS1 7 (λK t=> ?_);(go_wp2_with fail);refine t _ _ (Or.inl rfl) ?_;clear t K
   (try simp only[nr])
   refine wSd ?_ _;(go_wp2_with fail);go_meet;exact⟨rfl,ar⟩
  case rest=>
   obtain⟨rfl,a7⟩:=hcut;(rename World=>w5);have a6:=er.out.2.2.2.2.trans (a7.mono er.out.2.2.2.2.size);have cm:=Y.out.mem.below a6;have gr:=hid cm;obtain⟨p0,p1,p2,p3,q0,q1,q2,q3,f0⟩:=G.out _ a7;have ia:=lt_of_cell p0;have ib:=lt_of_cell q0;have b6:=lt_of_cell f0;have m0:=cm.mv.cell;have en:=cm.mv.lt;obtain⟨AL,gy,l0,ht⟩:=cm.mkr.all_cell;have bn:=hid (And.intro a7 a6);have HN:=hid (λ(l:Bool)=>Y.out.node l a6);have HE:=hid (λ(l:Bool)(e:Ending)(w':World) hp=> @zVI c (.slice (some ⟨ab,P,none⟩) a.length acap) (.slice (some ⟨bb,Q,none⟩) b.length bcap) (.slice D ds.length dcap) w w' st F Z w5 l e Y.out.mem a6 hp);clear cm a7 a6 eo ep;by_cases al:mn=ds.length\/4000<st.all.length
   ·skip
    have N:=hid (HU.out.trans (if_pos al));clear HU;by_cases X:mn=ds.length
    ·subst X;clear al cn
     cases ac:p.leaf with
     |true=>
      rw[ac]at p0;rw[ac,Bool.true_and]at N;clear ac;(go_wp2_with fail);refine(HN.out q.leaf).mono ?_;intro e w6 hp;have HF:=hid (HE.out _ _ _ hp);obtain⟨rfl,-⟩:=hp;go_wp2;go_ret;rw[N.out];exact HF.out
     |false=>
      rw[ac]at p0;rw[ac,Bool.false_and]at N;clear ac;(go_wp2_with fail);refine(HN.out false).mono ?_;intro e w6 hp;have HF:=hid (HE.out _ _ _ hp);obtain⟨rfl,-⟩:=hp;go_wp2;go_ret;rw[N.out];exact HF.out
    ·have h2:4000<st.all.length:=al.resolve_left X;(have e1:(mn==(ds.length:Int))=false:=by simp[X]);(have e2:decide ((4000:Int)<(st.all.length:Int))=true:=by simp;omega);(have e3:decide (4000<st.all.length)=true:=by simp;omega);clear al X h2
     cases ac:p.leaf with
     |true=>
      rw[ac]at p0;rw[ac,Bool.true_and]at N;clear ac;(go_wp2_with fail);refine(HN.out q.leaf).mono ?_;intro e w6 hp;have HF:=hid (HE.out _ _ _ hp);obtain⟨rfl,-⟩:=hp;go_wp2;go_ret;rw[N.out];exact HF.out
     |false=>
      rw[ac]at p0;rw[ac,Bool.false_and]at N;clear ac;(go_wp2_with fail);refine(HN.out false).mono ?_;intro e w6 hp;have HF:=hid (HE.out _ _ _ hp);obtain⟨rfl,-⟩:=hp;go_wp2;go_ret;rw[N.out];exact HF.out
   ·have N:=hid (HU.out.trans (if_neg al));(have dd:mn<ds.length:=by omega);(have e8:st.all.length<=4000:=by omega);obtain⟨i,rfl⟩:=Int.eq_ofNat_of_zero_le cn.1;(have ci:i<ds.length:=by omega);(have e1:((i:Int)==(ds.length:Int))=false:=by simp;omega);(have e2:decide ((4000:Int)<(st.all.length:Int))=false:=by simp;omega);(have e3:decide (4000<st.all.length)=false:=by simp;omega);(have iu:((i:Nat):Int)<(ds.length:Int):=by omega);obtain⟨D',g4,he,-,-,dr⟩:=Y.out.fs.open_;injection he with he1 he2 he3;subst he1 he3;clear he2;obtain⟨fb,bl,rfl,g9,fl,x0,x1,x2,x3,dw⟩:=dr i ci;replace x2:=brd bn.out.2 x2 fl;have ic:=lt_of_cell x2;have a4:=hid ci;have gh:=hid e8;have bo:=hid eh;have fp:zCQ ds[i]=true:=zEb Y.out.ga.dom (List.getElem_mem ci);(have d5:fAt ds (i:Int)=ds[i]:=by show ds.getD i zAY=ds[i];rw[List.getD_eq_getElem?_getD,List.getElem?_eq_getElem ci];rfl);have br:=hid (And.intro dw (And.intro fp d5));generalize ds[i]=fx at*;have au:=zFI (base:=w5.heap.size) ((Blk.new w5 3 #[.int .i64 fx.lo]).alloc (.cells #[.bool p.leaf,.int .i64 p.fact,.slice PU p.cuts.length I,.slice PK p.kids.length H,.bool q.leaf,.int .i64 q.fact,.slice QU q.cuts.length L,.slice QK q.kids.length J] 131)) (Nat.le_refl _) (by simp[maxLen]);have ff:=Blk.new' (w5.alloc (.cells #[.int .i64 fx.lo] 3)) 131 #[.bool p.leaf,.int .i64 p.fact,.slice PU p.cuts.length I,.slice PK p.kids.length H,.bool q.leaf,.int .i64 q.fact,.slice QU q.cuts.length L,.slice QK q.kids.length J] (n:=w5.heap.size+1) (by simp);have fd:=zDG w5 (.cells #[.int .i64 fx.lo] 3) (.cells #[.bool p.leaf,.int .i64 p.fact,.slice PU p.cuts.length I,.slice PK p.kids.length H,.bool q.leaf,.int .i64 q.fact,.slice QU q.cuts.length L,.slice QK q.kids.length J] 131);have bw:=hid (And.intro au (And.intro ff fd));clear al cn dd e8 ci dr g9 x0 x1 x3 dw fp d5 au ff fd HU HN HE f3 f4 eh;go_wp2;clear l0 ht m0 en p0 p1 p2 p3 q0 q1 q2 q3 ia ib x2 ic e1 e2 e3;have f5:=bw.out.2.2.size;generalize (w5.alloc (.cells #[.int .i64 fx.lo] 3)).alloc (.cells #[.bool p.leaf,.int .i64 p.fact,.slice PU p.cuts.length I,.slice PK p.kids.length H,.bool q.leaf,.int .i64 q.fact,.slice QU q.cuts.length L,.slice QK q.kids.length J] 131)=w6 at*;generalize ha:w5.heap.size+1=gR at*;(have ig:w5.heap.size<gR:=by omega);clear ha;have cw:=hid (λh=>zQ8 Y.out.ga.good HX.out.1 HX.out.2.2.1 a4.out br.out.2.2 h);have cx:=hid (λh=>zQ8 Y.out.gb.good HX.out.2.1 HX.out.2.2.2 a4.out br.out.2.2 h);have bd:=hid (show fx.lo<=fx.hi/\fx.hi-fx.lo<=1000000 from by have:=zCy br.out.2.1;omega);have dg:=hid (zMU cw.out bd.out);have dh:=hid (zMU cx.out bd.out);go_loopw[16,84] (λvv ix wr=>∃(j:Nat)(vl:Value),j<=2/\ix= .int .i64 j/\vl=vv/\wr.ownsRow w5.heap.size 3 1 vl (zEo fx.lo (zAX ds i p) (zAX ds i q) j).length ((zEo fx.lo (zAX ds i p) (zAX ds i q) j).map (.int .i64))/\Blk wr gR 131 #[.bool p.leaf,.int .i64 p.fact,.slice PU p.cuts.length I,.slice PK p.kids.length H,.bool q.leaf,.int .i64 q.fact,.slice QU q.cuts.length L,.slice QK q.kids.length J]/\vl.ownBlock≠some gR/\Bw w5 wr) (λ_ ix _=>2-(intOf ix).toNat);case atStart=>exact⟨0,_,by omega,rfl,rfl,bw.out.1,bw.out.2.1,by simp[Value.ownBlock];omega,bw.out.2.2⟩
    case round=>
     obtain⟨j,vl,hj,rfl,rfl,aj,hR,ei,au⟩:=hrel;(rename World=>wr);by_cases bu:j<2
     ·skip
      obtain⟨n,NU,V,NK,U,r0,r1,r2,r3,hn,fj,dd⟩:∃(n:zB)(NU:Option Addr)(V:Nat)(NK:Option Addr)(U:Nat),wr.cell? ⟨gR,j*4,none⟩=some (.bool n.leaf)/\wr.cell? ⟨gR,j*4+1,none⟩=some (.int .i64 n.fact)/\wr.cell? ⟨gR,j*4+2,none⟩=some (.slice NU n.cuts.length V)/\wr.cell? ⟨gR,j*4+3,none⟩=some (.slice NK n.kids.length U)/\
        zAP Zn w [.bool n.leaf,.int .i64 n.fact,.slice NU n.cuts.length V,.slice NK n.kids.length U] n/\(zP ds n=i->n.cuts≠[]/\zy fx.lo fx.hi n.cuts)/\zEo fx.lo (zAX ds i p) (zAX ds i q) (j+1)=zEo fx.lo (zAX ds i p) (zAX ds i q) j++zAX ds i n:=by
       match j,bu with
       |0,_=>exact⟨p,_,_,_,_,hR.cell 0,hR.cell 1,hR.cell 2,hR.cell 3,HP.out,cw.out,by simp[zEo]⟩
       |1,_=>exact⟨q,_,_,_,_,hR.cell 4,hR.cell 5,hR.cell 6,hR.cell 7,HQ.out,cx.out,by simp[zEo]⟩
      have fg:Bw w wr:=bn.out.2.trans (au.mono bn.out.2.size);have rl:=hR.lt;have d9:wr.cell? ⟨c.Fv,0,none⟩=some (.slice (some ⟨fb,bl,none⟩) ds.length dcap):=brd au f0 b6;have dm:c.Fv<wr.heap.size:=lt_of_cell d9;have cu:=hid (λ(W:World)(O:Bw w W)=>zMz Zn Zn n [.bool n.leaf,.int .i64 n.fact,.slice NU n.cuts.length V,.slice NK n.kids.length U] (.slice (some ⟨fb,bl,none⟩) ds.length dcap) ds W (hn.keep (.of_below O)) (Y.out.fs.keep (.of_below O)));have HR:=hid (And.intro hR (And.intro ei (And.intro au fg)));have dl:=hid aj;have dk:=hid (zPR (lo:=fx.lo) j dg.out dh.out);have gj:=hid fj;have cz:=hid dd;(have iw:(j:Int)<2:=by omega);have HJ:=hid hj;clear hR ei au fg aj fj dd hj;by_cases ah:zP ds n=i
      ·have es:=hid (gj.out ah);(have e5:(zP ds n==(i:Int))=true:=by simp[ah]);(have hcut:zAX ds i n=n.cuts:=by unfold zAX;rw[if_pos ah]);rw[hcut]at cz;obtain⟨i3,i4,a8,-,fk,-⟩:=hn;simp only[List.cons.injEq,and_true]at a8;obtain⟨-,-,a8,-⟩:=a8;subst a8;obtain⟨cb,bk,ie,a8,g6,du,-,fh⟩:=fk.open_ es.out.1;injection a8 with a8 hee2 hee3;subst a8 hee3;clear hee2
       have gi:=hid (λ(W:World)(O:Bw w W) j u(hu:(n.cuts.map (Value.int .i64))[j]? =some u)=>(show W.cell? ⟨cb,bk+j,none⟩=some u from by
        have hj:j<n.cuts.length:=by
         rcases Nat.lt_or_ge j n.cuts.length with h|h
         ·exact h
         ·rw[List.getElem?_eq_none (by simpa using h)]at hu;cases hu
        rw[(O.cell (p:=⟨cb,bk+j,none⟩) du),fh j hj,<-hu]
        simp[List.getD_eq_getElem?_getD,hj]))
       have bz:=hid (zIu es.out.2 bd.out.1);clear fk fh hcut ah g6 du;(go_wp2_with fail);have ct:Bw w (wr.alloc (.cells #[.bool n.leaf,.int .i64 n.fact,.slice (some ⟨cb,bk,none⟩) n.cuts.length V,.slice NK n.kids.length U] 131)):=HR.out.2.2.2.alloc HR.out.2.2.2.size _;refine(cu.out _ ct).mono ?_;rintro e w7 ⟨rfl,ai⟩;have ef:=(Blk.new wr 131 #[.bool n.leaf,.int .i64 n.fact,.slice (some ⟨cb,bk,none⟩) n.cuts.length V,.slice NK n.kids.length U]).below ai (by simp);have b2:=ef.at2;have gz:wr.heap.size<w7.heap.size:=ef.lt;have ay:Bw wr w7:=zD (zF wr _) ai (by simp);have d4:=HR.out.2.2.2.trans (ay.mono HR.out.2.2.2.size);have aa:=zX dl.out (zA.of_below (Z:=λ_=>True) ay) (λ_ _=>trivial);have bg:=hid (And.intro ay (And.intro d4 aa));clear r0 r1 r2 r3 rl d9 dm ai ef ct ay d4 aa cu;go_wp2_with(at_builtin;refine z6 rfl (.tmp 93) (.tmp 95) _ rfl underlying28 Tryz.eInt rfl bg.out.2.2 rfl (news:=n.cuts.map (Value.int .i64)) (by simp) (gi.out _ bg.out.2.1) (by intro u hu;obtain⟨z,-,rfl⟩:=List.mem_map.1 hu;rfl) (by have X:=bz.out;have h2:=dk.out;have h3:=bd.out;unfold maxLen;omega) (by have X:=bz.out;have h2:=dk.out;have h3:=bd.out;omega) (by have X:=bg.out.1.size;have h2:=HR.out.2.2.1.size;omega) ?_;intro v8 w8 f2 aw dn);have bs:zA (λb=>vl.ownBlock≠some b) w7 w8:=(zA.refl _ _).grown aw (λk hk _ hz=>hz hk);have e4:=(HR.out.1.below bg.out.1 HR.out.1.lt).keep bs HR.out.2.1;have cf:Bw w5 w7:=HR.out.2.2.1.trans (bg.out.1.mono HR.out.2.2.1.size);have dt:Bw w5 w8:=ze cf bg.out.2.2 aw cf.size (Nat.le_refl _)
       have d1:v8.ownBlock≠some gR:=λe=>by
        rcases dn with h|h
        ·exact HR.out.2.1 (h.symm.trans e)
        ·rw[h]at e;injection e with e;have X:=bg.out.1.size;have h2:=HR.out.1.lt;omega
       have ax:w8.ownsRow w5.heap.size 3 1 v8 (zEo fx.lo (zAX ds i p) (zAX ds i q) (j+1)).length ((zEo fx.lo (zAX ds i p) (zAX ds i q) (j+1)).map (.int .i64)):=by
        rw[cz.out,List.length_append,List.map_append];exact f2
       have H8:=hid (And.intro ax (And.intro e4 (And.intro d1 dt)));clear bs e4 cf dt d1 ax f2 aw dn b2 gz;go_wp2;go_roundw;(case rel=>exact⟨j+1,_,by omega,by go_num,rfl,H8.out.1,H8.out.2.1,H8.out.2.2.1,H8.out.2.2.2⟩);case measure=>simp[intOf];omega
      ·(have e5:(zP ds n==(i:Int))=false:=by simp[ah]);(have hcut:zAX ds i n=[]:=by unfold zAX;rw[if_neg ah]);rw[hcut,List.append_nil]at cz;clear hcut ah hn;(go_wp2_with fail);have ct:Bw w (wr.alloc (.cells #[.bool n.leaf,.int .i64 n.fact,.slice NU n.cuts.length V,.slice NK n.kids.length U] 131)):=HR.out.2.2.2.alloc HR.out.2.2.2.size _;refine(cu.out _ ct).mono ?_;rintro e w7 ⟨rfl,ai⟩;have ay:Bw wr w7:=zD (zF wr _) ai (by simp);have aa:=zX dl.out (zA.of_below (Z:=λ_=>True) ay) (λ_ _=>trivial);rw[<-cz.out]at aa;have H8:=hid (And.intro aa (And.intro (HR.out.1.below ay HR.out.1.lt) (And.intro HR.out.2.1 (HR.out.2.2.1.trans (ay.mono HR.out.2.2.1.size)))));clear r0 r1 r2 r3 rl d9 dm ai ct ay aa cu;go_wp2;go_roundw;(case rel=>exact⟨j+1,_,by have:=HJ.out;omega,by go_num,rfl,H8.out.1,H8.out.2.1,H8.out.2.2.1,H8.out.2.2.2⟩);case measure=>simp[intOf];omega
     ·have hz:zEo fx.lo (zAX ds i p) (zAX ds i q) j=fx.lo::(zAX ds i p++zAX ds i q):=by unfold zEo;rw[if_pos (by omega),if_pos (by omega)]
      have dj:=hid (show Lib.compact ((zEo fx.lo (zAX ds i p) (zAX ds i q) j).mergeSort λa b=>decide (a<=b))=zAB ds p q from by
       rw[hz,zVK (hi:=fx.hi) (λv T=> ?_)]
       ·unfold zAB;rw[bo.out,br.out.2.2];rfl
       ·rcases List.mem_append.1 T with T|T
        ·unfold zAX at T;split at T
         ·rename_i e;exact zBJ (cw.out e).2 v T
         ·simp at T
        ·unfold zAX at T;split at T
         ·rename_i e;exact zBJ (cx.out e).2 v T
         ·simp at T)
      have hr:=zPR (lo:=fx.lo) j dg.out dh.out
      have df:=hid (show ∃rest,zAB ds p q=fx.lo::rest/\zy fx.lo fx.hi rest from by
       refine⟨zEV (zAX ds i p++zAX ds i q),?_,zGR λv T=> ?_⟩
       ·unfold zAB;rw[bo.out,br.out.2.2];rfl
       ·rcases List.mem_append.1 T with T|T
        ·unfold zAX at T;split at T
         ·rename_i e;exact zBJ (cw.out e).2 v T
         ·simp at T
        ·unfold zAX at T;split at T
         ·rename_i e;exact zBJ (cx.out e).2 v T
         ·simp at T)
      have bc:∃m,(zEo fx.lo (zAX ds i p) (zAX ds i q) j).length =m+1:=⟨_,rfl⟩;generalize zEo fx.lo (zAX ds i p) (zAX ds i q) j=zs at*;obtain⟨m,bc⟩:=bc;have bh:=aj;rw[bc]at bh;obtain⟨g,c1,T⟩:=zAm bh;rw[<-bc]at T;subst T;have fr:w5.heap.size<=g:=(aj.lt g rfl).1;have et:=hid (zPI aj (by omega));have bx:=hid (And.intro au fr);have ip:=hid bu;clear hz bc bh aj hR ei au fr hr hj;(go_wp2_with fail);refine et.out.mono ?_;rintro e w1 ⟨rfl,cq,fu⟩;have cv:=hid (And.intro (zd bx.out.1 fu bx.out.2 bx.out.1.size) bx.out.2);have eu:=hid (zKo cq);clear cq fu et bx;(go_wp2_with fail);refine eu.out.mono ?_;rintro e w3 ⟨ys,gd,rfl,cr,fw⟩;have ho:ys=zAB ds p q:=gd.trans dj.out;have bm:=zd cv.out.1 fw cv.out.2 cv.out.1.size;subst ho;clear gd fw eu cv dj bu
      have cg:∀v∈zAB ds p q,I64 v:=λv T=>by
       have E:=zCy br.out.2.1;obtain⟨rest,he,ca⟩:=df.out;rw[he]at T;rcases List.mem_cons.1 T with rfl|T
       ·constructor<;>omega
       ·have:=zBJ ca v T;constructor<;>omega
      have ej:(zAB ds p q).length <=1000001:=by
       obtain⟨rest,he,ca⟩:=df.out;have X:=zIu ca bd.out.1;have h2:=bd.out.2;rw[he,List.length_cons];omega
      have fc:Bw w w3:=bn.out.2.trans (bm.mono bn.out.2.size);have ez:=hid (zK.of_own cr cg (by omega)).live;have cy:=hid (And.intro (gr.out.below bm) fc);have iz:=bm.size;have b5:=hid (λb(E:w.heap.size<=b)=>(show c.kept F b from⟨λhf=>by have:=Y.out.mem.mkr.liveF b hf;omega,by have:=Y.out.mem.lt.2;omega⟩));have de:=bn.out.2.size;clear cr bm fc cg bw f5 f0 b6;go_wp2;go_loopw[19,104] (λvv ix wr=>∃(kk:Nat)(vk:Value)(F' Z':zE),kk<=(zAB ds p q).length /\ix= .int .i64 kk/\vk=vv/\AnL c (.slice (some ⟨ab,P,none⟩) a.length acap) (.slice (some ⟨bb,Q,none⟩) b.length bcap) (.slice (some ⟨fb,bl,none⟩) ds.length dcap) w3 wr F Z (zQ (bF ds a b k A C i) ((zAB ds p q).take kk) st).2 (zQ (bF ds a b k A C i) ((zAB ds p q).take kk) st).1 vk F' Z') (λ_ ix _=>(zAB ds p q).length -(intOf ix).toNat);case atStart=>exact⟨0,_,F,Z,Nat.zero_le _,rfl,rfl,AnL.start cy.out.1⟩
      case round=>
       obtain⟨kk,vk,F',Z',hd,rfl,rfl,hL⟩:=hrel;(rename World=>wr);have ap:=hid (show zA (c.kept F) w wr from(zA.of_below cy.out.2).trans hL.kept);have af:=hid (λv=>zEE Y.out.ga.good (v:=v) HX.out.1 (i:=(i:Int)) (by rw[HX.out.2.2.1,<-bo.out];exact Int.min_le_left _ _) (by have:=a4.out;omega));have ag:=hid (λv=>zEE Y.out.gb.good (v:=v) HX.out.2.1 (i:=(i:Int)) (by rw[HX.out.2.2.2,<-bo.out];exact Int.min_le_right _ _) (by have:=a4.out;omega))
       have aq:=hid (show ∀v,ds.length-(min (zP ds (nAt a (zAG a A i v))) (zP ds (nAt b (zAG b C i v)))).toNat <k from λv=>by
        have X:=(af.out v).2;have h2:=(ag.out v).2;have h3:=b4.out;have h4:=a4.out;rw[bo.out]at h3
        omega)
       have ao:=hid (λl=>zMw (f:=(bF ds a b k A C i)) (B:=4000+(ds.length-i)-1) (λv st=>zHT ds a b k _ _ st) (λv st hs=>by
        obtain⟨a1,a2,a3⟩:=zPA Y.out.ga.good Y.out.gb.good k _ _ st (af.out v).1 (ag.out v).1 (aq.out v) hs;refine⟨a1,a2,Nat.le_trans a3 ?_⟩;have X:=(af.out v).2;have h2:=(ag.out v).2;have h4:=a4.out
        omega) l st Y.out.wst)
       have ft:inn st.all<=4000:=Nat.le_trans List.countP_le_length gh.out;have ev:=hid ft;clear ft;by_cases bu:kk<(zAB ds p q).length
       ·skip
        obtain⟨vb,il,ek,f8,-,f7⟩:=ez.out.at_ bu;injection ek with ek;injection ek with hve1 hve2;subst hve1 hve2;have d3:wr.cell? ⟨g,0+kk,none⟩=some (.int .i64 (zAB ds p q)[kk]):=hL.kept.cell (p:=⟨g,0+kk,none⟩) (b5.out g (by have:=f8.1;omega)) f7;rw[Nat.zero_add]at d3;have i2:g<wr.heap.size:=lt_of_cell d3;obtain⟨AK,ak,hh,-,-,-⟩:=Row.of_own hL.own (by decide);have aj:=hL.own;have hc:=hL.kept.size;have HL:=hid hL
        have G:=hid (λ(W:World)(O:zA (λb=>c.kept F' b/\vk.ownBlock≠some b) wr W)=>(show W.cell? ⟨c.Gv,0,none⟩=some (.func (.func 109) #[] #[.pointer (some ⟨c.Dv,0,none⟩),.pointer (some ⟨c.Av,0,none⟩),.pointer (some ⟨c.Bv,0,none⟩),.pointer (some ⟨c.Fv,0,none⟩),.pointer (some ⟨c.Mv,0,none⟩),.pointer (some ⟨c.Gv,0,none⟩)])/\W.cell? ⟨c.Av,0,none⟩=some (.slice (some ⟨ab,P,none⟩) a.length acap)/\W.cell? ⟨c.Bv,0,none⟩=some (.slice (some ⟨bb,Q,none⟩) b.length bcap) from by
         have cs:∀b,c.var b->(λb=>c.kept F' b/\vk.ownBlock≠some b) b:=λb E=>⟨hL.mem.var b E,λe=>(hL.row b e).2.2 E⟩
         exact⟨(hL.mem.gv.keep O (cs _ (Or.inr (Or.inr (Or.inr (Or.inr (Or.inr rfl))))))).cell,(hL.mem.av.keep O (cs _ (Or.inr (Or.inl rfl)))).cell,(hL.mem.bv.keep O (cs _ (Or.inr (Or.inr (Or.inl rfl))))).cell⟩))
        subst hh;have dx:((zAB ds p q).take (kk+1))=(zAB ds p q).take kk++[(zAB ds p q)[kk]]:=List.take_succ_eq_append_getElem bu;have gp:=hid (show zQ (bF ds a b k A C i) ((zAB ds p q).take (kk+1)) st=((zQ (bF ds a b k A C i) ((zAB ds p q).take kk) st).1++[((bF ds a b k A C i) (zAB ds p q)[kk] (zQ (bF ds a b k A C i) ((zAB ds p q).take kk) st).2).1],((bF ds a b k A C i) (zAB ds p q)[kk] (zQ (bF ds a b k A C i) ((zAB ds p q).take kk) st).2).2) from by rw[dx,zIt]);(have iy:(kk:Int)<((zAB ds p q).length :Int):=by omega);(have dy:(zQ (bF ds a b k A C i) ((zAB ds p q).take kk) st).1.length =kk:=by rw[zC7,List.length_take];omega);have di:=hid dy;have e0:=hid (ao.out ((zAB ds p q).take kk));have ew:=hid (And.intro hd ej);clear hL f7 dx f8 dy ao;generalize (zQ (bF ds a b k A C i) ((zAB ds p q).take kk) st).1=kids at*;generalize (zQ (bF ds a b k A C i) ((zAB ds p q).take kk) st).2=az at*;generalize (zAB ds p q)[kk]=v at*;go_wp2;refine zL 15 (λW=>zA (λb=>c.kept F' b/\(Value.slice AK kids.length ak).ownBlock ≠some b) wr W) (by kernel_rfl) ?_;have s:(λW=>zA (λb=>c.kept F' b/\(Value.slice AK kids.length ak).ownBlock ≠some b) wr W) wr.drew:=(zA.refl _ _).drew
        (refine tkQ 0 s ?_;simp only[nr])
        (refine tkS 1 ?_ s ?_ ?_;rotate_left;intro w d;obtain⟨h0,X,h2⟩:=G.out _ d;go_simp;(try with_reducible rfl);simp only[nr])
        (refine tkS 2 ?_ s ?_ ?_;rotate_left;intro w d;obtain⟨h0,X,h2⟩:=G.out _ d;go_simp;(try with_reducible rfl);simp only[nr])
        (refine tkQ 3 s ?_;simp only[nr])
        (refine tkQ 4 s ?_;simp only[nr])
        (refine tkQ 5 s ?_;simp only[nr])
        (refine tkS 7 ?_ s ?_ ?_;rotate_left;intro w d;obtain⟨h0,X,h2⟩:=G.out _ d;go_simp;(try with_reducible rfl);simp only[nr])
        (refine tkQ 8 s ?_;simp only[nr])
        (refine tkQ 9 s ?_;simp only[nr])
        (refine tkQ 10 s ?_;simp only[nr])
        refine wS1 6 (λK t=> ?_);(go_wp2_with fail);refine(zPK Zn (.slice (some ⟨ab,P,none⟩) a.length acap) a ds A i v wr.drew (Y.out.na.keep ((ap.out.mono λb _ E=>(Y.out.off b E).1).drew)) Y.out.ga.good HX.out.1).mono ?_;rintro e x1 ⟨rfl,fa⟩;have a5:Bw wr x1:=((Below.refl wr.heap.size wr).drew).trans fa;refine t _ _ (Or.inr (.of_below a5)) ?_;clear t K fa s
        (try simp only[nr])
        refine wS1 11 (λK t=> ?_);(go_wp2_with fail);refine(zPK Zn (.slice (some ⟨bb,Q,none⟩) b.length bcap) b ds C i v x1 (Y.out.nb.keep ((ap.out.mono λb _ E=>(Y.out.off b E).1).trans (.of_below a5))) Y.out.gb.good HX.out.2.1).mono ?_;rintro e w7 ⟨rfl,c8⟩;have ai:Bw wr w7:=a5.trans (c8.mono a5.size);have e6:(λW=>zA (λb=>c.kept F' b/\(Value.slice AK kids.length ak).ownBlock ≠some b) wr W) w7:= .of_below ai;have d7:=hid (gn.out _ _ w7 az F' Z' (af.out v).1 (ag.out v).1 (aq.out v) (Y.out.kid (zA.of_below cy.out.2) HL.out ai e0.out.1 (by have X:=e0.out.2.2;have h2:=ev.out;have h3:=a4.out;omega)));have d6:=hid ai;refine t _ _ (Or.inr e6) ?_;clear t K a5 c8 ai
        (try simp only[nr])
        refine wS1 12 (λK t=> ?_);(go_wp2_with fail);refine d7.out.mono ?_;intro e w8 ba;have ed:zA (λb=>c.kept F' b/\(Value.slice AK kids.length ak).ownBlock ≠some b) wr w8:=e6.trans (ba.2.2.mono λb _ E=>E.1);have ax:w8.ownsRow w3.heap.size 3 1 (.slice AK kids.length ak) kids.length (kids.map (.int .i64)):=zX (zX HL.out.own (zA.of_below (Z:=λ_=>True) d6.out) (λ_ _=>trivial)) ba.2.2 (λk hk=>(HL.out.row k hk).1);have ii:w3.heap.size<=w8.heap.size:=Nat.le_trans hc (Nat.le_trans d6.out.size ba.2.2.size);have ey:=hid ba;obtain rfl:=ba.1;refine t _ _ (Or.inr ed) ?_;clear t K ba
        (try simp only[nr])
        have ex:=hid (show(bF ds a b k A C i) v az=zAZ ds a b k (zAG a A i v) (zAG b C i v) az from rfl);rw[<-ex.out]at ey⊢;generalize (bF ds a b k A C i) v az=r at*;refine wS1 13 (λK t=> ?_);(go_wp2_with fail);refine t _ _ (Or.inr (ed.alloc _)) ?_;clear t K
        (try simp only[nr])
        refine wS1 14 (λK t=> ?_);refine zAz (.tmp 108) (.tmp 121) _ rfl underlying28 Tryz.eInt rfl (ax.alloc _) rfl (news:=[.int .i64 r.1]) rfl (one_cell (by simp)) (by simp[Value.oneCell']) (by have:=di.out;have:=ew.out;unfold maxLen;omega) (by have:=di.out;have:=ew.out;omega) (by simp;omega) ?_;intro v5 i5 d2 ch cc;have gs:=hid (HL.out.step d6.out ey.out ch d2 cc);refine t _ _ (Or.inr ((ed.alloc _).grown ch (λk hk _ hz=>hz.2 hk))) ?_;clear t K ch d2 cc
        (try simp only[nr])
        refine wS1 15 (λK t=> ?_);(go_wp2_with fail);refine t _ _ (Or.inl rfl) ?_;clear t K
        (try simp only[nr])
        refine wSd ?_ _;go_wp2;go_roundw
        case rel=>
         obtain⟨F2,Z2,g5⟩:=gs.out;refine⟨kk+1,_,F2,Z2,by omega,by go_num,rfl,?_⟩;rw[gp.out];exact g5
        case measure=>simp[intOf];omega
       ·(obtain rfl:kk=(zAB ds p q).length :=by omega);rw[List.take_length]at hL;have fy:=zC7 (f:=(bF ds a b k A C i)) (zAB ds p q) st;have O:=ao.out (zAB ds p q);have a9:(zQ (bF ds a b k A C i) (zAB ds p q) st).1≠[]:=zIi (by simp[zAB]);have d8:=hid (show zAZ ds a b (k+1) A C st=((zAT (zQ (bF ds a b k A C i) (zAB ds p q) st).2.all i (zAB ds p q) (zQ (bF ds a b k A C i) (zAB ds p q) st).1).1,⟨(zAT (zQ (bF ds a b k A C i) (zAB ds p q) st).2.all i (zAB ds p q) (zQ (bF ds a b k A C i) (zAB ds p q) st).1).2,zCh (zQ (bF ds a b k A C i) (zAB ds p q) st).2.done ((A:Int),(C:Int)) (zAT (zQ (bF ds a b k A C i) (zAB ds p q) st).2.all i (zAB ds p q) (zQ (bF ds a b k A C i) (zAB ds p q) st).1).1⟩) from N.out.trans (by unfold zV9;rw[bo.out]));clear ao N aq af ag;generalize (zQ (bF ds a b k A C i) (zAB ds p q) st).1=kids at*;generalize (zQ (bF ds a b k A C i) (zAB ds p q) st).2=az at*
        have e9:az.all.length<=5000:=by
         have X:=O.1.tab.len;have h2:=O.2.2;have h3:=ev.out;have h4:=zBT Y.out.ga.dom;omega
        have cl:∀q∈kids,I64 q:=λq hq=>by
         have:=O.2.1 q hq;have X:=this.1;have h2:=this.2;constructor<;>omega
        have fq:=ap.out;have f5:=hL.kept.size
        have bj:=hid (zNK c.M az.all F' Z' (λb=>(w.heap.size<=b/\b<w3.heap.size)\/vk.ownBlock=some b) (i:Int) (.slice (some ⟨g,0,none⟩) (zAB ds p q).length c1) vk (zAB ds p q) kids wr hL.mem.mkr
         ((ez.out.keep (hL.kept.mono λb _ E=>b5.out b (Nat.le_trans de E.1))).mono λb E=>Or.inl ⟨Nat.le_trans de E.1,E.2⟩) ((zI3 hL.own cl (by omega)).mono λb E=>Or.inr E)
         (λb E=>by
          rcases E with E|E
          ·exact(zF4 hL.hF (b5.out b E.1) E.2 (Nat.le_refl _)).1
          ·exact(hL.row b E).1.1)
         (by have h4:=zBT Y.out.ga.dom;have h5:=a4.out;constructor<;>omega) fy.symm a9 (by omega) (by omega) (Y.out.tabAt fq))
        obtain⟨AK,ak,rfl,-,-,-⟩:=Row.of_own hL.own (by decide);have m0:=hL.mem.mv.cell;have en:=hL.mem.mv.lt;have HL:=hid hL;clear hL fy O a9 cl fq e9;generalize zAT az.all i (zAB ds p q) kids=o at*;(go_wp2_with fail);refine bj.out.mono ?_;intro e w8 ba;obtain⟨rfl,⟨F2,Z2,fz,ec,ee⟩,bs⟩:=ba;have aw:=AnW.made HL.out.mem (Below.refl _ _) fz ec ee bs;have n0:=aw.dv.cell;have hw:=aw.dv.lt;have gm:=hid aw;have gl:=hid aw.done;have bf:=hid (And.intro bs (And.intro ec ee));clear aw fz ec ee bs bj m0 en;go_wp2_with(at_mapUpdate;refine zCB rfl (.tmp 129) (.tmp 132) _ rfl Tryz.keyP (e:=3) underlying183 rfl (gl.out) ((A:Int),(C:Int)) rfl ?_;intro w9 f1 bt f6 fi fo);have dz:zW zE0 w9 c.db (kvA (zCh az.done ((A:Int),(C:Int)) o.1)):=by rw[<-zQh];exact f1
        have HE:=hid (show zIN c (.slice (some ⟨ab,P,none⟩) a.length acap) (.slice (some ⟨bb,Q,none⟩) b.length bcap) (.slice (some ⟨fb,bl,none⟩) ds.length dcap) w F Z (zAZ ds a b (k+1) A C st) (.returned (.int .i64 o.1)) w9 from by
         rw[d8.out];have i0:=bf.out.1.size;have h6:=cy.out.2.size;refine⟨rfl,⟨F2,Z2,gm.out.setDone dz bt,λb E=> ?_,λb E=> ?_⟩,⟨bt.os.trans (bf.out.1.os.trans ap.out.os),bt.tape.trans (bf.out.1.tape.trans ap.out.tape),bt.output.trans (bf.out.1.output.trans ap.out.output),by have:=ap.out.size;omega,λk hk hz=> ?_⟩⟩
         ·rcases bf.out.2.1 b E with E|E
          ·rcases HL.out.hF b E with E|E
           ·exact Or.inl E
           ·exact Or.inr (by omega)
          ·exact Or.inr (by omega)
         ·rcases bf.out.2.2 b E with E|E
          ·rcases HL.out.hZ b E with E|E
           ·exact Or.inl E
           ·exact Or.inr (by omega)
          ·exact Or.inr (by omega)
         ·have i1:=ap.out.size
          rw[bt.block k (by omega) hz.2,bf.out.1.block k (by omega) (zF4 HL.out.hF hz hk (by omega)).1,ap.out.block k hk hz])
        clear f1 dz bt f6 fi fo n0 hw;go_wp2;go_ret;exact HE.out
theorem zUZ:∀k:Nat,zTS c (.slice AA a.length acap) (.slice AB b.length bcap) (.slice D ds.length dcap) a b ds Zn B0 k:=by
 intro k
 induction k with
 |zero=>intro x y w st F Z _ _ f _;omega
 |succ k ih=>
  intro x y w st F Z g i f h
  cases d:kvI st.done (x,y)with
  |some r=>
   (have e:zAZ ds a b (k+1) x y st=(r,st):=by unfold zAZ;rw[d]);rw[e];exact zSB x y h d
  |none=>exact zUY k ih x y f h g i d
end
end Go.Proofs.YthpocbeoanipbaaGreatDoor
