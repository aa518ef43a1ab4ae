/- Lemmas. -/
import Derived.Test.YtommaegelgilnaaGreatDoorM36
import Derived.Test.YtommaegelgilnaaGreatDoorM35
set_option linter.all false
namespace Go.Proofs.YtommaegelgilnaaGreatDoor
open Go.RowKit Go.Proofs.Tryz
set_option maxHeartbeats 8000000
set_option maxRecDepth 100000
variable {B i:Nat}{Z Z':zD}{hi lo:Int}{n:zB}{va vb vd:Value}{w w':World}{x:zHQ}
theorem Tryz.egAnd1:∀args w,(callFunc 117 args).run prog w= .ok (.enter 117 args) w:=enters_of func117 (by kernel_rfl) rfl
theorem zET{P:Program}{o:Oper}{a:Act}{K:Act->World->Prop}{Q:Exit->Act->World->Prop}(ty:TypeId)(x y:Operand)(m:o.op= .store ty x y){g:Nat}{t:TypeId}{cs cells:Array Value}(n:a.eval x= .pointer (some ⟨g,0,none⟩))(q:a.eval y= .agg cells)
  (d:Blk w g t cs)(e:cs.size=cells.size)(hi:(P.info? ty).map (·.size)=some cells.size)(i:cells.all (·.oneCell')=true)
  (h:∀c,Blk c g t cells->zA (λb=>b≠g) w c->c.heap.size=w.heap.size->K (a.put o.dst undef) c):Oper.wp P o a w K Q:=by
 refine wp_store_mid ty x y m g 0 cells n q (e▸d.there) hi i ?_;obtain⟨f,s,u,v⟩:=size_setCells g cells.toList 0 w;refine h _ ?_ ⟨s,u,v,Nat.le_of_eq f.symm,λk _ j=>zAN g _ 0 w k j⟩ f;have:Blk (w.setCells g 0 cells.toList) g t (zC0 cs cells.toList 0):=by first|exact Blk.setCells cells.toList 0 w cs d|exact Blk.setCells (w:=w) cells.toList 0 w cs d
 rwa[zHX (by simpa using e.symm),Array.toArray_toList]at this
theorem zTu{q:List Int}(j:∀v∈q,lo<v/\v<=hi):Lib.compact ((lo::q).mergeSort λa b=>decide (a<=b))=lo::zEJ q:=by
 have g:((lo::q).mergeSort λa b=>decide (a<=b)).Pairwise (· <= ·):=by
  have:=List.pairwise_mergeSort (le:=λa b:Int=>decide (a<=b)) (λa b c f n=>by simp at f n⊢;omega) (λa b=>by simp;omega) (lo::q);exact this.imp λh=>by simpa using h
 obtain⟨f,n⟩:=zGe g;generalize Lib.compact ((lo::q).mergeSort λa b=>decide (a<=b))=L at*
 have d:∀v,v∈L↔(v=lo\/v∈q):=λv=>by
  rw[n,List.mem_mergeSort,List.mem_cons]
 have i:lo∈L:=(d _).2 (Or.inl rfl)
 cases L with
 |nil=>simp at i
 |cons a r=>
 have m:=f;rw[List.pairwise_cons]at f
 have o:a=lo:=by
  rcases(d a).1 (by simp)with h|h
  ·exact h
  rcases List.mem_cons.1 i with k|k
  ·exact k.symm
  have:=f.1 _ k;have:=(j _ h).1;omega
 subst o
 have s:∀v∈r,v<=hi:=λv e=>by
  rcases(d v).1 (List.mem_cons_of_mem _ e)with h|h
  ·have:=f.1 v e;omega
  exact(j v h).2
 congr 1;refine zJU (zFE m s) (zFj j) λv=> ?_
 rw[zFi];constructor
 ·intro e;rcases(d v).1 (List.mem_cons_of_mem _ e)with h|h
  ·have:=f.1 v e;omega
  exact h
 intro e;rcases List.mem_cons.1 ((d v).2 (Or.inr e))with h|h
 ·have:=(j v e).1;omega
 exact h
section
variable {c:AV} {AA AB D:Option Addr} {acap bcap dcap:Nat} {a b:List zB} {ds:List zE} {Zn:zD} {B0:Nat} {w:World} {st:ASt} {F Z:zD}
theorem zIM:∀{l:List Int}{lo hi:Int},zAE lo hi l->lo<=hi->(l.length:Int)<=hi-lo
 |[],_,_,_,h=>by simp;omega
 |c::l,lo,hi,h,_=>by
  have:=zIM h.2.2 h.2.1;have:=h.1;simp only[List.length_cons];omega
def zEg(lo:Int)(pc qc:List Int)(j:Nat):List Int:=lo::((if 0<j then pc else[])++(if 1<j then qc else[]))
theorem zOK{a b:List Int}(j:Nat)(c:a.length<=1000000)(d:b.length<=1000000):(zEg lo a b j).length <=2000001:=by
 unfold zEg;rw[List.length_cons,List.length_append];split<;>split<;>simp<;>omega
def zAd(ds:List zE)(i:Nat)(n:zB):List Int:=if zU ds n=i then n.cuts else[]
theorem zLV(h:zU ds n=i->n.cuts≠[]/\zAE lo hi n.cuts)(a:lo<=hi/\hi-lo<=1000000):(zAd ds i n).length <=1000000:=by
 unfold zAd;split
 ·rename_i e;have:=zIM (h e).2 a.1;omega
 simp
theorem zP0{g:List zB}(e:Good ds g){x:Int}(j:Rng g x)(f:nAt g x=n)(hi:i<ds.length){b:zE}(d:fAt ds (i:Int)=b)(h:zU ds n=i):n.cuts≠[]/\zAE b.lo b.hi n.cuts:=by
 subst f d
 have a:(nAt g x).kids ≠[]:=by
  intro a;unfold zU at h;rw[if_pos a]at h;omega
 have I:=e.inner j a;have c:(nAt g x).fact =i:=by unfold zU at h;rw[if_neg a]at h;exact h
 refine⟨I.cuts,?_⟩;have:=I.asc;rwa[c]at this
def bF(ds:List zE)(a b:List zB)(k:Nat)(x y i:Int)(v:Int)(st:ASt):Int × ASt:=zAe ds a b k (zAQ a x i v) (zAQ b y i v) st
def zUT(ds:List zE)(a b:List zB)(k:Nat)(x y:Int)(st:ASt)(p q:zB):Int × ASt:=
 let r:=zW (bF ds a b k x y (min (zU ds p) (zU ds q))) (zAM ds p q) st;let o:=zAb r.2.all (min (zU ds p) (zU ds q)) (zAM ds p q) r.1
 (o.1,⟨o.2,zCd r.2.done (x,y) o.1⟩)
theorem zTv(k:Nat)(x y:Int)(c:kvI st.done (x,y)=none){p q:zB}(d:nAt a x=p)(e:nAt b y=q):
  zAe ds a b (k+1) x y st=if min (zU ds p) (zU ds q)=ds.length\/4000<st.all.length then((zy st.all ⟨p.leaf&&q.leaf,0,[],[]⟩).1,⟨(zy st.all ⟨p.leaf&&q.leaf,0,[],[]⟩).2,st.done⟩)else zUT ds a b k x y st p q:=by
 subst d e;unfold zAe;rw[c];rfl
theorem zQm(x y:Int)(h:zEf c va vb vd a b ds Zn B0 w st F Z){r:Int}(d:kvI st.done (x,y)=some r):
  Calls prog 117 (c.args x y) w (zHa c va vb vd w F Z (r,st)):=by
 have i:=Tryz.lookP h.mem.done x y;simp only[d,Option.isSome_some]at i;have j:=h.mem.dv.cell;have g:=h.mem.dv.lt;have f:=hid h.mem;clear h d;unfold AV.args;go_enter func117,ntmps117
 go_wp2;go_ret;exact⟨rfl,⟨F,Z,f.out,λb e=>Or.inl e,λb e=>Or.inl e⟩,zA.refl _ _⟩
theorem zEf.kid{n wr m:World}{f:ASt}{kids:List Int}{t:Value}{F' Z':zD}(h:zEf c va vb vd a b ds Zn B0 w st F Z)(j:zA (c.kept F) w n)(i:AnL c va vb vd n wr F Z f kids t F' Z')
  (g:Bw wr m)(q:zFz f)(o:inn f.all<=4000+ds.length):zEf c va vb vd a b ds Zn B0 m f F' Z':=by
 have s:=j.size;have u:=i.kept.size;have v:=g.size;have e:zA (c.kept F) w m:=j.trans (i.kept.trans (.of_below g))
 refine⟨i.mem.below g,h.na.keep (e.mono λb _ d=>(h.off b d).1),h.nb.keep (e.mono λb _ d=>(h.off b d).1),h.fs.keep (e.mono λb _ d=>(h.off b d).1),λx k=>⟨zFM i.hF (h.off x k).1 (h.off x k).2 s,by have:=(h.off x k).2;omega⟩,
  h.tab.on (h.belowB e),⟨by have:=h.base.1;omega,λb d=> ?_,h.base.2.2⟩,q,o,h.ga,h.gb⟩
 rcases i.hF b d with d|d
 ·exact h.base.2.1 b d
 have:=h.base.1;omega
def zSF(c:AV)(va vb vd:Value)(a b:List zB)(ds:List zE)(Zn:zD)(B0 k:Nat):Prop:=
 ∀(x y:Int)(w:World)(st:ASt)(F Z:zD),Rng a x->Rng b y->ds.length-(min (zU ds (nAt a x)) (zU ds (nAt b y))).toNat <k->zEf c va vb vd a b ds Zn B0 w st F Z->
  Calls prog 117 (c.args x y) w (zHa c va vb vd w F Z (zAe ds a b k x y st))
theorem zTF(k:Nat)(IH:zSF c (.slice AA a.length acap) (.slice AB b.length bcap) (.slice D ds.length dcap) a b ds Zn B0 k)(x y:Int)(hm:ds.length-(min (zU ds (nAt a x)) (zU ds (nAt b y))).toNat <k+1)(h:zEf c (.slice AA a.length acap) (.slice AB b.length bcap) (.slice D ds.length dcap) a b ds Zn B0 w st F Z)(hx:Rng a x)(hy:Rng b y)(en:kvI st.done (x,y)=none):
  Calls prog 117 (c.args x y) w (zHa c (.slice AA a.length acap) (.slice AB b.length bcap) (.slice D ds.length dcap) w F Z (zAe ds a b (k+1) x y st)):=by
 have Y:=hid h;have gw:=hid IH;have b5:=hid hm;have hl:=Tryz.lookP h.mem.done x y;simp only[en,Option.isSome_none]at hl;clear IH hm;have gy:=hid en;obtain⟨iw,g1,hg,-,-,dp⟩:=h.na.open_;injection hg with e1 e2 e3;subst e1 e3;clear e2;obtain⟨iy,g6,hh,-,-,dq⟩:=h.nb.open_;injection hh with e1 e2 e3;subst e1 e3;clear e2;obtain⟨A,rfl⟩:=Int.eq_ofNat_of_zero_le hx.1;obtain⟨C,rfl⟩:=Int.eq_ofNat_of_zero_le hy.1;have gi:A<a.length:=by have:=hx.2;omega
 have gj:C<b.length:=by have:=hy.2;omega
 obtain⟨ab,P,g2,g3,rfl,i0,c7,a0,a1,a2,a3,fe,b9,ca⟩:=dp A gi;obtain⟨bb,Q,g7,g8,rfl,i1,c9,b0,b1,b2,b3,fk,ce,cf⟩:=dq C gj;have d0:=h.mem.dv.cell;have g9:=h.mem.dv.lt;have v0:=h.mem.av.cell;have gn:=h.mem.av.lt;have u0:=h.mem.bv.cell;have gm:=h.mem.bv.lt;have iq:(A:Int)<(a.length:Int):=by omega
 have ir:(C:Int)<(b.length:Int):=by omega
 have cp:nAt a (A:Int)=a[A]:=zCB gi;have cq:nAt b (C:Int)=b[C]:=zCB gj;have HP:=hid (show zAY Zn w [.bool a[A].leaf,.int .i64 a[A].fact,g2,g3] a[A] from⟨_,_,rfl,fe,b9,ca⟩);have HQ:=hid (show zAY Zn w [.bool b[C].leaf,.int .i64 b[C].fact,g7,g8] b[C] from⟨_,_,rfl,fk,ce,cf⟩);have HX:=hid (And.intro hx (And.intro hy (And.intro cp cq)));have HU:=hid (zTv (ds:=ds) (a:=a) (b:=b) (st:=st) k A C gy cp cq);have f9:=zEk h.ga.good hx;have gc:=zEk h.gb.good hy;rw[cp]at f9;rw[cq]at gc;rw[cp,cq]at b5;generalize a[A]=p at*;generalize b[C]=q at*;obtain⟨PU,I,rfl,-⟩:=b9.form;obtain⟨PK,H,rfl,-⟩:=ca.form;obtain⟨QU,L,rfl,-⟩:=ce.form;obtain⟨QK,J,rfl,-⟩:=cf.form;clear h en dp dq fe b9 ca fk ce cf hx hy cp cq;unfold AV.args;go_enter func117,ntmps117
 go_upto_region 4 with(fail)
 go_cut[13,14] from 33 to 42 (λvp vq wx=>∃bp bq,vp= .pointer (some ⟨bp,0,none⟩)/\vq= .pointer (some ⟨bq,0,none⟩)/\Blk wx bp 123 #[.bool p.leaf,.int .i64 p.fact,.slice PU p.cuts.length I,.slice PK p.kids.length H]/\Blk wx bq 123 #[.bool q.leaf,.int .i64 q.fact,.slice QU q.cuts.length L,.slice QK q.kids.length J]/\w.heap.size<=bp/\w.heap.size<=bq/\Bw w wx)
 case first=>
  refine zY 13 (λW=>Bw w W) (by kernel_rfl) ?_;have s:(λW=>Bw w W) w.drew:=(Below.refl _ _).drew
  have HC:=hid (λ(W:World)(O:Bw w W)=>(show W.cell? ⟨c.Av,0,none⟩=some (.slice (some ⟨ab,P,none⟩) a.length acap)/\W.cell? ⟨c.Bv,0,none⟩=some (.slice (some ⟨bb,Q,none⟩) b.length bcap)/\W.cell? ⟨ab,P+A*4,none⟩=some (.bool p.leaf)/\W.cell? ⟨ab,P+A*4+1,none⟩=some (.int .i64 p.fact)/\W.cell? ⟨ab,P+A*4+2,none⟩=some (.slice PU p.cuts.length I)/\W.cell? ⟨ab,P+A*4+3,none⟩=some (.slice PK p.kids.length H)/\
    W.cell? ⟨bb,Q+C*4,none⟩=some (.bool q.leaf)/\W.cell? ⟨bb,Q+C*4+1,none⟩=some (.int .i64 q.fact)/\W.cell? ⟨bb,Q+C*4+2,none⟩=some (.slice QU q.cuts.length L)/\W.cell? ⟨bb,Q+C*4+3,none⟩=some (.slice QK q.kids.length J) from
   ⟨brd O v0 gn,brd O u0 gm,brd O a0 c7,brd O a1 c7,brd O a2 c7,brd O a3 c7,
    brd O b0 c9,brd O b1 c9,brd O b2 c9,brd O b3 c9⟩))
  clear a0 a1 a2 a3 b0 b1 b2 b3 v0 u0
  (refine tkQ 0 s ?_;simp only[nr])
  (refine tkS 1 ?_ s ?_ ?_;rotate_left;intro w d;obtain⟨h0,X,h2,h3,h4,h5,h6,h7,h8,h9⟩:=HC _ d;clear d;go_simp;(try with_reducible rfl);simp only[nr])
  (refine tkQ 2 s ?_;simp only[nr])
  (refine tkQ 3 s ?_;simp only[nr])
  (refine tkS 4 ?_ s ?_ ?_;rotate_left;intro w d;obtain⟨h0,X,h2,h3,h4,h5,h6,h7,h8,h9⟩:=HC _ d;clear d;go_simp;(try with_reducible rfl);simp only[nr])
  (refine tkQ 5 s ?_;simp only[nr])
  (refine tkS 6 ?_ s ?_ ?_;rotate_left;intro w d;obtain⟨h0,X,h2,h3,h4,h5,h6,h7,h8,h9⟩:=HC _ d;clear d;go_simp;(try with_reducible rfl);simp only[nr])
  (refine tkQ 7 s ?_;simp only[nr])
  (refine tkQ 8 s ?_;simp only[nr])
  (refine tkS 9 ?_ s ?_ ?_;rotate_left;intro w d;obtain⟨h0,X,h2,h3,h4,h5,h6,h7,h8,h9⟩:=HC _ d;clear d;go_simp;(try with_reducible rfl);simp only[nr])
  clear HC;have s:Bw w w.drew:=s;generalize w.drew=x0 at*;refine wS2 10 11 (λK t=> ?_) (λK t=> ?_)
  ·(go_wp2_with fail);refine t _ _ (Or.inr (s.alloc s.size _)) ?_;clear t K
   (try simp only[nr])
   refine wS1 11 (λK t=> ?_);(go_wp2_with fail);refine t _ _ (Or.inr ((s.alloc s.size _).alloc (by have:=s.size;simp;omega) _)) ?_;clear t K
   (try simp only[nr])
   have eg:=(Blk.new x0 123 #[.bool false,.int .i64 0,.slice none 0 0,.slice none 0 0]).alloc (.cells #[.bool false,.int .i64 0,.slice none 0 0,.slice none 0 0] 123);have eh:=Blk.new' (x0.alloc (.cells #[.bool false,.int .i64 0,.slice none 0 0,.slice none 0 0] 123)) 123 #[.bool false,.int .i64 0,.slice none 0 0,.slice none 0 0] (n:=x0.heap.size+1) (by simp);have ar:Bw w ((x0.alloc (.cells #[.bool false,.int .i64 0,.slice none 0 0,.slice none 0 0] 123)).alloc (.cells #[.bool false,.int .i64 0,.slice none 0 0,.slice none 0 0] 123)):=(s.alloc s.size _).alloc (by have:=s.size;simp;omega) _;have ad:w.heap.size<=x0.heap.size:=s.size;(have ae:w.heap.size<=x0.heap.size+1:=by have:=s.size;omega);(have a9:x0.heap.size≠x0.heap.size+1:=by omega);generalize (x0.alloc _).alloc _=x2 at*;generalize x0.heap.size+1=nq at*;generalize x0.heap.size=np at*;refine wS1 12 (λK t=> ?_);refine zET 123 (.tmp 13) (.tmp 37) rfl rfl rfl eg rfl (by kernel_rfl) (by simp[Value.oneCell']) ?_;intro w4 R ck ia;have b8:Blk w4 nq 123 #[.bool false,.int .i64 0,.slice none 0 0,.slice none 0 0]:=eh.keep ck a9.symm;have bi:Bw w w4:=zAG ar ck ad ar.size;refine t _ _ (Or.inr bi) ?_;clear t K
   (try simp only[nr])
   refine wS1 13 (λK t=> ?_);refine zET 123 (.tmp 14) (.tmp 42) rfl rfl rfl b8 rfl (by kernel_rfl) (by simp[Value.oneCell']) ?_;intro w5 a7 cl de;have et:Bw w w5:=zAG bi cl ae bi.size;refine t _ _ (Or.inl rfl) ?_;clear t K
   (try simp only[nr])
   refine wSd ?_ _;(go_wp2_with fail);go_meet;exact⟨np,nq,rfl,rfl,R.keep cl a9,a7,ad,ae,et⟩
  go_wp2_with fail
  refine t _ _ (Or.inr (s.alloc s.size _)) ?_;clear t K
  (try simp only[nr])
  refine wS1 10 (λK t=> ?_);go_wp2_with fail
  refine t _ _ (Or.inr ((s.alloc s.size _).alloc (by have:=s.size;simp;omega) _)) ?_;clear t K
  (try simp only[nr])
  have eh:=(Blk.new x0 123 #[.bool false,.int .i64 0,.slice none 0 0,.slice none 0 0]).alloc (.cells #[.bool false,.int .i64 0,.slice none 0 0,.slice none 0 0] 123);have eg:=Blk.new' (x0.alloc (.cells #[.bool false,.int .i64 0,.slice none 0 0,.slice none 0 0] 123)) 123 #[.bool false,.int .i64 0,.slice none 0 0,.slice none 0 0] (n:=x0.heap.size+1) (by simp);have ar:Bw w ((x0.alloc (.cells #[.bool false,.int .i64 0,.slice none 0 0,.slice none 0 0] 123)).alloc (.cells #[.bool false,.int .i64 0,.slice none 0 0,.slice none 0 0] 123)):=(s.alloc s.size _).alloc (by have:=s.size;simp;omega) _;have ae:w.heap.size<=x0.heap.size:=s.size;have ad:w.heap.size<=x0.heap.size+1:=by have:=s.size;omega
  have a9:x0.heap.size+1≠x0.heap.size:=by omega
  generalize (x0.alloc _).alloc _=x2 at*;generalize x0.heap.size+1=np at*;generalize x0.heap.size=nq at*;refine wS1 12 (λK t=> ?_);refine zET 123 (.tmp 13) (.tmp 37) rfl rfl rfl eg rfl (by kernel_rfl) (by simp[Value.oneCell']) ?_;intro w4 R ck ia;have b8:Blk w4 nq 123 #[.bool false,.int .i64 0,.slice none 0 0,.slice none 0 0]:=eh.keep ck a9.symm;have bi:Bw w w4:=zAG ar ck ad ar.size;refine t _ _ (Or.inr bi) ?_;clear t K
  (try simp only[nr])
  refine wS1 13 (λK t=> ?_);refine zET 123 (.tmp 14) (.tmp 42) rfl rfl rfl b8 rfl (by kernel_rfl) (by simp[Value.oneCell']) ?_;intro w5 a7 cl de;have et:Bw w w5:=zAG bi cl ae bi.size;refine t _ _ (Or.inl rfl) ?_;clear t K
  (try simp only[nr])
  refine wSd ?_ _;go_wp2_with fail
  go_meet;exact⟨np,nq,rfl,rfl,R.keep cl a9,a7,ad,ae,et⟩
 case rest=>
  obtain⟨np,nq,rfl,rfl,da,dc,ad,ae,R⟩:=hcut;rename World=>w4
  obtain⟨mn,eo⟩:∃mn:Int,min (zU ds p) (zU ds q)=mn:=⟨_,rfl⟩;have co:0<=mn/\mn<=ds.length:=by omega
  rw[eo]at HU;have f0:=brd R Y.mem.fv.cell Y.mem.fv.lt;have b7:=lt_of_cell f0;have ev:=hid (λ(W:World)(O:Bw w4 W)=>zLr Zn Zn p [.bool p.leaf,.int .i64 p.fact,.slice PU p.cuts.length I,.slice PK p.kids.length H] (.slice D ds.length dcap) ds W (HP.keep (.of_below (R.trans (O.mono R.size)))) (Y.fs.keep (.of_below (R.trans (O.mono R.size)))));have ew:=hid (λ(W:World)(O:Bw w4 W)=>zLr Zn Zn q [.bool q.leaf,.int .i64 q.fact,.slice QU q.cuts.length L,.slice QK q.kids.length J] (.slice D ds.length dcap) ds W (HQ.keep (.of_below (R.trans (O.mono R.size)))) (Y.fs.keep (.of_below (R.trans (O.mono R.size)))))
  have G:=hid (λ(W:World)(O:Bw w4 W)=>(show W.cell? ⟨np,0,none⟩=some (.bool p.leaf)/\W.cell? ⟨np,1,none⟩=some (.int .i64 p.fact)/\W.cell? ⟨np,2,none⟩=some (.slice PU p.cuts.length I)/\W.cell? ⟨np,3,none⟩=some (.slice PK p.kids.length H)/\
    W.cell? ⟨nq,0,none⟩=some (.bool q.leaf)/\W.cell? ⟨nq,1,none⟩=some (.int .i64 q.fact)/\W.cell? ⟨nq,2,none⟩=some (.slice QU q.cuts.length L)/\W.cell? ⟨nq,3,none⟩=some (.slice QK q.kids.length J)/\W.cell? ⟨c.Fv,0,none⟩=some (.slice D ds.length dcap) from by
   have X:=da.below O da.lt;have h2:=dc.below O dc.lt
   exact⟨X.cell 0,X.cell 1,X.cell 2,X.cell 3,h2.cell 0,h2.cell 1,h2.cell 2,h2.cell 3,brd O f0 b7⟩))
  have ex:=hid (And.intro da (And.intro dc (And.intro ad (And.intro ae R))));clear da dc ad ae R f0 b7 a0 a1 a2 a3 b0 b1 b2 b3 v0 gn u0 gm d0 g9 hl;go_upto_region 5 with(fail)
  go_cut[15] from 43 to 49 (λvi wx=>vi= .int .i64 mn/\Bw w4 wx)
  case first=>
   refine zY 7 (λW=>Bw w4 W) (by kernel_rfl) ?_;have s:(λW=>Bw w4 W) w4.drew:=(Below.refl _ _).drew
   (refine tkS 0 ?_ s ?_ ?_;rotate_left;intro w d;obtain⟨h0,X,h2,h3,h4,h5,h6,h7,h8⟩:=G _ d;clear d;go_simp;(try with_reducible rfl);simp only[nr])
   (refine tkS 1 ?_ s ?_ ?_;rotate_left;intro w d;obtain⟨h0,X,h2,h3,h4,h5,h6,h7,h8⟩:=G _ d;clear d;go_simp;(try with_reducible rfl);simp only[nr])
   (refine tkS 3 ?_ s ?_ ?_;rotate_left;intro w d;obtain⟨h0,X,h2,h3,h4,h5,h6,h7,h8⟩:=G _ d;clear d;go_simp;(try with_reducible rfl);simp only[nr])
   (refine tkS 4 ?_ s ?_ ?_;rotate_left;intro w d;obtain⟨h0,X,h2,h3,h4,h5,h6,h7,h8⟩:=G _ d;clear d;go_simp;(try with_reducible rfl);simp only[nr])
   have s:Bw w4 w4.drew:=s;generalize w4.drew=x0 at*;refine wS1 2 (λK t=> ?_);(go_wp2_with fail);refine(ev _ s).mono ?_;rintro e x1 ⟨rfl,E⟩;have c6:Bw w4 x1:=s.trans (E.mono s.size);refine t _ _ (Or.inr c6) ?_;clear t K
   (try simp only[nr])
   refine wS1 5 (λK t=> ?_);(go_wp2_with fail);refine(ew _ c6).mono ?_;rintro e x2 ⟨rfl,c8⟩;have ar:Bw w4 x2:=c6.trans (c8.mono c6.size);refine t _ _ (Or.inr ar) ?_;clear t K
   (try simp only[nr])
   refine wS1 6 (λK t=> ?_);(go_wp2_with fail);refine t _ _ (Or.inr ar) ?_;clear t K
   (try simp only[nr])
   refine wS1 7 (λK t=> ?_);(go_wp2_with fail);refine t _ _ (Or.inl rfl) ?_;clear t K
   (try simp only[nr])
   refine wSd ?_ _;(go_wp2_with fail);go_meet;exact⟨rfl,ar⟩
  case rest=>
   obtain⟨rfl,a7⟩:=hcut;(rename World=>w5);have a6:=ex.2.2.2.2.trans (a7.mono ex.2.2.2.2.size);have cn:=Y.mem.below a6;have gz:=hid cn;obtain⟨p0,p1,p2,p3,q0,q1,q2,q3,f0⟩:=G _ a7;have ij:=lt_of_cell p0;have ik:=lt_of_cell q0;have b7:=lt_of_cell f0;have m0:=cn.mv.cell;have eu:=cn.mv.lt;obtain⟨AL,g4,l0,ig⟩:=cn.mkr.all_cell;have bo:=hid (And.intro a7 a6);have HN:=hid (λ(l:Bool)=>Y.node l a6);have HE:=hid (λ(l:Bool)(e:Ending)(w':World) hp=> @zTs c (.slice (some ⟨ab,P,none⟩) a.length acap) (.slice (some ⟨bb,Q,none⟩) b.length bcap) (.slice D ds.length dcap) w w' st F Z w5 l e Y.mem a6 hp);clear cn a7 a6 ev ew;by_cases al:mn=ds.length\/4000<st.all.length
   ·skip
    have N:=hid (HU.trans (if_pos al));clear HU;by_cases X:mn=ds.length
    ·subst X;clear al co
     cases ac:p.leaf with
     |true=>
      rw[ac]at p0;rw[ac,Bool.true_and]at N;clear ac;(go_wp2_with fail);refine(HN q.leaf).mono ?_;intro e w6 hp;have HF:=hid (HE _ _ _ hp);obtain⟨rfl,-⟩:=hp;go_wp2;go_ret;rw[N.out];exact HF.out
     |false=>
     rw[ac]at p0;rw[ac,Bool.false_and]at N;clear ac;(go_wp2_with fail);refine(HN false).mono ?_;intro e w6 hp;have HF:=hid (HE _ _ _ hp);obtain⟨rfl,-⟩:=hp;go_wp2;go_ret;rw[N.out];exact HF.out
    have h2:4000<st.all.length:=al.resolve_left X;(have e1:(mn==(ds.length:Int))=false:=by simp[X]);(have e2:decide ((4000:Int)<(st.all.length:Int))=true:=by simp;omega);(have e3:decide (4000<st.all.length)=true:=by simp;omega);clear al X h2
    cases ac:p.leaf with
    |true=>
     rw[ac]at p0;rw[ac,Bool.true_and]at N;clear ac;(go_wp2_with fail);refine(HN q.leaf).mono ?_;intro e w6 hp;have HF:=hid (HE _ _ _ hp);obtain⟨rfl,-⟩:=hp;go_wp2;go_ret;rw[N.out];exact HF.out
    |false=>
    rw[ac]at p0;rw[ac,Bool.false_and]at N;clear ac;(go_wp2_with fail);refine(HN false).mono ?_;intro e w6 hp;have HF:=hid (HE _ _ _ hp);obtain⟨rfl,-⟩:=hp;go_wp2;go_ret;rw[N.out];exact HF.out
   have N:=hid (HU.trans (if_neg al));(have dd:mn<ds.length:=by omega);(have ff:st.all.length<=4000:=by omega);obtain⟨i,rfl⟩:=Int.eq_ofNat_of_zero_le co.1;(have cj:i<ds.length:=by omega);(have e1:((i:Int)==(ds.length:Int))=false:=by simp;omega);(have e2:decide ((4000:Int)<(st.all.length:Int))=false:=by simp;omega);(have e3:decide (4000<st.all.length)=false:=by simp;omega);(have i2:((i:Nat):Int)<(ds.length:Int):=by omega);obtain⟨D',ha,he,-,-,dr⟩:=Y.fs.open_;injection he with he1 he2 he3;subst he1 he3;clear he2;obtain⟨fb,bm,rfl,ho,fu,x0,x1,x2,x3,dw⟩:=dr i cj;replace x2:=brd bo.2 x2 fu;have il:=lt_of_cell x2;have a4:=hid cj;have gp:=hid ff;have br:=hid eo;have fy:zCY ds[i]=true:=zE8 Y.ga.dom (List.getElem_mem cj);(have eb:fAt ds (i:Int)=ds[i]:=by show ds.getD i zAP=ds[i];rw[List.getD_eq_getElem?_getD,List.getElem?_eq_getElem cj];rfl);have bs:=hid (And.intro dw (And.intro fy eb));generalize ds[i]=fx at*;have au:=zEx (base:=w5.heap.size) ((Blk.new w5 3 #[.int .i64 fx.lo]).alloc (.cells #[.bool p.leaf,.int .i64 p.fact,.slice PU p.cuts.length I,.slice PK p.kids.length H,.bool q.leaf,.int .i64 q.fact,.slice QU q.cuts.length L,.slice QK q.kids.length J] 123)) (Nat.le_refl _) (by simp[maxLen]);have fl:=Blk.new' (w5.alloc (.cells #[.int .i64 fx.lo] 3)) 123 #[.bool p.leaf,.int .i64 p.fact,.slice PU p.cuts.length I,.slice PK p.kids.length H,.bool q.leaf,.int .i64 q.fact,.slice QU q.cuts.length L,.slice QK q.kids.length J] (n:=w5.heap.size+1) (by simp);have fj:=zCX w5 (.cells #[.int .i64 fx.lo] 3) (.cells #[.bool p.leaf,.int .i64 p.fact,.slice PU p.cuts.length I,.slice PK p.kids.length H,.bool q.leaf,.int .i64 q.fact,.slice QU q.cuts.length L,.slice QK q.kids.length J] 123);have bx:=hid (And.intro au (And.intro fl fj));clear al co dd ff cj dr ho x0 x1 x3 dw fy eb au fl fj HU HN HE f9 gc eo;go_wp2;clear l0 ig m0 eu p0 p1 p2 p3 q0 q1 q2 q3 ij ik x2 il e1 e2 e3;have gd:=bx.2.2.size;generalize (w5.alloc _).alloc _=w6 at*;generalize hr:w5.heap.size+1=gR at*;(have io:w5.heap.size<gR:=by omega);clear hr;have cx:=hid (λh=>zP0 Y.ga.good HX.1 HX.2.2.1 a4 bs.2.2 h);have cy:=hid (λh=>zP0 Y.gb.good HX.2.1 HX.2.2.2 a4 bs.2.2 h);have bd:=hid (show fx.lo<=fx.hi/\fx.hi-fx.lo<=1000000 from by have:=zDE bs.2.1;omega);have dg:=hid (zLV cx bd);have dh:=hid (zLV cy bd);go_loopw[16,84] (λvv ix wr=>∃(j:Nat)(vl:Value),j<=2/\ix= .int .i64 j/\vl=vv/\wr.ownsRow w5.heap.size 3 1 vl (zEg fx.lo (zAd ds i p) (zAd ds i q) j).length ((zEg fx.lo (zAd ds i p) (zAd ds i q) j).map (.int .i64))/\Blk wr gR 123 #[.bool p.leaf,.int .i64 p.fact,.slice PU p.cuts.length I,.slice PK p.kids.length H,.bool q.leaf,.int .i64 q.fact,.slice QU q.cuts.length L,.slice QK q.kids.length J]/\vl.ownBlock≠some gR/\Bw w5 wr) (λ_ ix _=>2-(intOf ix).toNat);case atStart=>exact⟨0,_,by omega,rfl,rfl,bx.1,bx.2.1,by simp[Value.ownBlock];omega,bx.2.2⟩
   case round=>
    obtain⟨j,vl,hj,rfl,rfl,aj,hR,ep,au⟩:=hrel;(rename World=>wr);by_cases bw:j<2
    ·skip
     obtain⟨n,NU,V,NK,U,r0,r1,r2,r3,hn,fr,dd⟩:∃(n:zB)(NU:Option Addr)(V:Nat)(NK:Option Addr)(U:Nat),wr.cell? ⟨gR,j*4,none⟩=some (.bool n.leaf)/\wr.cell? ⟨gR,j*4+1,none⟩=some (.int .i64 n.fact)/\wr.cell? ⟨gR,j*4+2,none⟩=some (.slice NU n.cuts.length V)/\wr.cell? ⟨gR,j*4+3,none⟩=some (.slice NK n.kids.length U)/\
       zAY Zn w [.bool n.leaf,.int .i64 n.fact,.slice NU n.cuts.length V,.slice NK n.kids.length U] n/\(zU ds n=i->n.cuts≠[]/\zAE fx.lo fx.hi n.cuts)/\zEg fx.lo (zAd ds i p) (zAd ds i q) (j+1)=zEg fx.lo (zAd ds i p) (zAd ds i q) j++zAd ds i n:=by
      match j,bw with
      |0,_=>exact⟨p,_,_,_,_,hR.cell 0,hR.cell 1,hR.cell 2,hR.cell 3,HP.out,cx.out,by simp[zEg]⟩
      |1,_=>exact⟨q,_,_,_,_,hR.cell 4,hR.cell 5,hR.cell 6,hR.cell 7,HQ.out,cy.out,by simp[zEg]⟩
     have fo:Bw w wr:=bo.2.trans (au.mono bo.2.size);have rl:=hR.lt;have ef:wr.cell? ⟨c.Fv,0,none⟩=some (.slice (some ⟨fb,bm,none⟩) ds.length dcap):=brd au f0 b7;have dm:c.Fv<wr.heap.size:=lt_of_cell ef;have cv:=hid (λ(W:World)(O:Bw w W)=>zLr Zn Zn n [.bool n.leaf,.int .i64 n.fact,.slice NU n.cuts.length V,.slice NK n.kids.length U] (.slice (some ⟨fb,bm,none⟩) ds.length dcap) ds W (hn.keep (.of_below O)) (Y.fs.keep (.of_below O)));have HR:=hid (And.intro hR (And.intro ep (And.intro au fo)));have dl:=hid aj;have dk:=hid (zOK (lo:=fx.lo) j dg dh);have gr:=hid fr;have c0:=hid dd;(have i3:(j:Int)<2:=by omega);have HJ:=hid hj;clear hR ep au fo aj fr dd hj;by_cases ah:zU ds n=i
     ·have ey:=hid (gr ah);(have e5:(zU ds n==(i:Int))=true:=by simp[ah]);(have hcut:zAd ds i n=n.cuts:=by unfold zAd;rw[if_pos ah]);rw[hcut]at c0;obtain⟨ja,jb,a8,-,ft,-⟩:=hn;simp only[List.cons.injEq,and_true]at a8;obtain⟨-,-,a8,-⟩:=a8;subst a8;obtain⟨cb,bk,im,a8,hd,du,-,fp⟩:=ft.open_ ey.1;injection a8 with a8 hee2 hee3;subst a8 hee3;clear hee2
      have gq:=hid (λ(W:World)(O:Bw w W) j u(hu:(n.cuts.map (Value.int .i64))[j]? =some u)=>(show W.cell? ⟨cb,bk+j,none⟩=some u from by
       have hj:j<n.cuts.length:=by
        rcases Nat.lt_or_ge j n.cuts.length with h|h
        ·exact h
        rw[List.getElem?_eq_none (by simpa using h)]at hu;cases hu
       rw[(O.cell (p:=⟨cb,bk+j,none⟩) du),fp j hj,<-hu]
       simp[List.getD_eq_getElem?_getD,hj]))
      have b4:=hid (zIM ey.2 bd.1);clear ft fp hcut ah hd du;(go_wp2_with fail);have cu:Bw w (wr.alloc (.cells #[.bool n.leaf,.int .i64 n.fact,.slice (some ⟨cb,bk,none⟩) n.cuts.length V,.slice NK n.kids.length U] 123)):=HR.2.2.2.alloc HR.2.2.2.size _;refine(cv _ cu).mono ?_;rintro e w7 ⟨rfl,ai⟩;have em:=(Blk.new wr 123 #[.bool n.leaf,.int .i64 n.fact,.slice (some ⟨cb,bk,none⟩) n.cuts.length V,.slice NK n.kids.length U]).below ai (by simp);have b2:=em.at2;have g5:wr.heap.size<w7.heap.size:=em.lt;have ay:Bw wr w7:=zC (zG wr _) ai (by simp);have ea:=HR.2.2.2.trans (ay.mono HR.2.2.2.size);have aa:=zXL dl (zA.of_below (Z:=λ_=>True) ay) (λ_ _=>trivial);have bg:=hid (And.intro ay (And.intro ea aa));clear r0 r1 r2 r3 rl ef dm ai em cu ay ea aa cv;go_wp2_with(at_builtin;refine zh rfl (.tmp 93) (.tmp 95) _ rfl underlying33 Tryz.eInt rfl bg.2.2 rfl (news:=n.cuts.map (Value.int .i64)) (by simp) (gq _ bg.2.1) (by intro u hu;obtain⟨z,-,rfl⟩:=List.mem_map.1 hu;rfl) (by have X:=b4.out;have h2:=dk.out;have h3:=bd.out;unfold maxLen;omega) (by have X:=b4.out;have h2:=dk.out;have h3:=bd.out;omega) (by have X:=bg.1.size;have h2:=HR.2.2.1.size;omega) ?_;intro v8 w8 f8 aw dn);have bt:zA (λb=>vl.ownBlock≠some b) w7 w8:=(zA.refl _ _).grown aw (λk hk _ hz=>hz hk);have fc:=(HR.1.below bg.1 HR.1.lt).keep bt HR.2.1;have cg:Bw w5 w7:=HR.2.2.1.trans (bg.1.mono HR.2.2.1.size);have dt:Bw w5 w8:=zAs cg bg.2.2 aw cg.size (Nat.le_refl _)
      have d5:v8.ownBlock≠some gR:=λe=>by
       rcases dn with h|h
       ·exact HR.2.1 (h.symm.trans e)
       rw[h]at e;injection e with e;have X:=bg.1.size;have h2:=HR.1.lt;omega
      have ax:w8.ownsRow w5.heap.size 3 1 v8 (zEg fx.lo (zAd ds i p) (zAd ds i q) (j+1)).length ((zEg fx.lo (zAd ds i p) (zAd ds i q) (j+1)).map (.int .i64)):=by
       rw[c0.out,List.length_append,List.map_append];exact f8
      have H8:=hid (And.intro ax (And.intro fc (And.intro d5 dt)));clear bt fc cg dt d5 ax f8 aw dn b2 g5;go_wp2;go_roundw;(case rel=>exact⟨j+1,_,by omega,by go_num,rfl,H8.1,H8.2.1,H8.2.2.1,H8.2.2.2⟩);case measure=>simp[intOf];omega
     (have e5:(zU ds n==(i:Int))=false:=by simp[ah]);(have hcut:zAd ds i n=[]:=by unfold zAd;rw[if_neg ah]);rw[hcut,List.append_nil]at c0;clear hcut ah hn;(go_wp2_with fail);have cu:Bw w (wr.alloc (.cells #[.bool n.leaf,.int .i64 n.fact,.slice NU n.cuts.length V,.slice NK n.kids.length U] 123)):=HR.2.2.2.alloc HR.2.2.2.size _;refine(cv _ cu).mono ?_;rintro e w7 ⟨rfl,ai⟩;have ay:Bw wr w7:=zC (zG wr _) ai (by simp);have aa:=zXL dl (zA.of_below (Z:=λ_=>True) ay) (λ_ _=>trivial);rw[<-c0.out]at aa;have H8:=hid (And.intro aa (And.intro (HR.1.below ay HR.1.lt) (And.intro HR.2.1 (HR.2.2.1.trans (ay.mono HR.2.2.1.size)))));clear r0 r1 r2 r3 rl ef dm ai cu ay aa cv;go_wp2;go_roundw;(case rel=>exact⟨j+1,_,by have:=HJ.out;omega,by go_num,rfl,H8.1,H8.2.1,H8.2.2.1,H8.2.2.2⟩);case measure=>simp[intOf];omega
    have hz:zEg fx.lo (zAd ds i p) (zAd ds i q) j=fx.lo::(zAd ds i p++zAd ds i q):=by unfold zEg;rw[if_pos (by omega),if_pos (by omega)]
    have dj:=hid (show Lib.compact ((zEg fx.lo (zAd ds i p) (zAd ds i q) j).mergeSort λa b=>decide (a<=b))=zAM ds p q from by
     rw[hz,zTu (hi:=fx.hi) (λv T=> ?_)]
     ·unfold zAM;rw[br.out,bs.2.2];rfl
     rcases List.mem_append.1 T with T|T
     ·unfold zAd at T;split at T
      ·rename_i e;exact zBZ (cx e).2 v T
      simp at T
     unfold zAd at T;split at T
     ·rename_i e;exact zBZ (cy e).2 v T
     simp at T)
    have ie:=zOK (lo:=fx.lo) j dg dh.out
    have df:=hid (show ∃rest,zAM ds p q=fx.lo::rest/\zAE fx.lo fx.hi rest from by
     refine⟨zEJ (zAd ds i p++zAd ds i q),?_,zFj λv T=> ?_⟩
     ·unfold zAM;rw[br.out,bs.2.2];rfl
     rcases List.mem_append.1 T with T|T
     ·unfold zAd at T;split at T
      ·rename_i e;exact zBZ (cx e).2 v T
      simp at T
     unfold zAd at T;split at T
     ·rename_i e;exact zBZ (cy e).2 v T
     simp at T)
    have bc:∃m,(zEg fx.lo (zAd ds i p) (zAd ds i q) j).length =m+1:=⟨_,rfl⟩;generalize zEg fx.lo (zAd ds i p) (zAd ds i q) j=zs at*;obtain⟨m,bc⟩:=bc;have bh:=aj;rw[bc]at bh;obtain⟨g,c1,T⟩:=zBc bh;rw[<-bc]at T;subst T;have f1:w5.heap.size<=g:=(aj.lt g rfl).1;have ez:=hid (zKQ aj (by omega));have bz:=hid (And.intro au f1);have iz:=hid bw;clear hz bc bh aj hR ep au f1 ie hj;(go_wp2_with fail);refine ez.mono ?_;rintro e w1 ⟨rfl,cr,f3⟩;have cw:=hid (And.intro (zAG bz.1 f3 bz.2 bz.1.size) bz.2);have e0:=hid (zHR cr);clear cr f3 ez bz;(go_wp2_with fail);refine e0.mono ?_;rintro e w3 ⟨ys,gl,rfl,cs,f4⟩;have ic:ys=zAM ds p q:=gl.trans dj.out;have bn:=zAG cw.1 f4 cw.2 cw.1.size;subst ic;clear gl f4 e0 cw dj bw
    have ch:∀v∈zAM ds p q,I64 v:=λv T=>by
     have E:=zDE bs.2.1;obtain⟨rest,he,cc⟩:=df.out;rw[he]at T;rcases List.mem_cons.1 T with rfl|T
     ·constructor<;>omega
     have:=zBZ cc v T;constructor<;>omega
    have er:(zAM ds p q).length <=1000001:=by
     obtain⟨rest,he,cc⟩:=df.out;have X:=zIM cc bd.1;have h2:=bd.2;rw[he,List.length_cons];omega
    have fi:Bw w w3:=bo.2.trans (bn.mono bo.2.size);have e9:=hid (zO.of_own cs ch (by omega)).live;have cz:=hid (And.intro (gz.below bn) fi);have i5:=bn.size;have b6:=hid (λb(E:w.heap.size<=b)=>(show c.kept F b from⟨λhf=>by have:=Y.mem.mkr.liveF b hf;omega,by have:=Y.mem.lt.2;omega⟩));have de:=bo.2.size;clear cs bn fi ch bx gd f0 b7;go_wp2;go_loopw[19,104] (λvv ix wr=>∃(kk:Nat)(vk:Value)(F' Z':zD),kk<=(zAM ds p q).length /\ix= .int .i64 kk/\vk=vv/\AnL c (.slice (some ⟨ab,P,none⟩) a.length acap) (.slice (some ⟨bb,Q,none⟩) b.length bcap) (.slice (some ⟨fb,bm,none⟩) ds.length dcap) w3 wr F Z (zW (bF ds a b k A C i) ((zAM ds p q).take kk) st).2 (zW (bF ds a b k A C i) ((zAM ds p q).take kk) st).1 vk F' Z') (λ_ ix _=>(zAM ds p q).length -(intOf ix).toNat);case atStart=>exact⟨0,_,F,Z,Nat.zero_le _,rfl,rfl,AnL.start cz.1⟩
    case round=>
     obtain⟨kk,vk,F',Z',hw,rfl,rfl,hL⟩:=hrel;(rename World=>wr);have ap:=hid (show zA (c.kept F) w wr from(zA.of_below cz.2).trans hL.kept);have af:=hid (λv=>zDy Y.ga.good (v:=v) HX.1 (i:=(i:Int)) (by rw[HX.2.2.1,<-br.out];exact Int.min_le_left _ _) (by have:=a4.out;omega));have ag:=hid (λv=>zDy Y.gb.good (v:=v) HX.2.1 (i:=(i:Int)) (by rw[HX.2.2.2,<-br.out];exact Int.min_le_right _ _) (by have:=a4.out;omega))
     have aq:=hid (show ∀v,ds.length-(min (zU ds (nAt a (zAQ a A i v))) (zU ds (nAt b (zAQ b C i v)))).toNat <k from λv=>by
      have X:=(af v).2;have h2:=(ag v).2;have h3:=b5.out;have h4:=a4.out;rw[br.out]at h3
      omega)
     have ao:=hid (λl=>zLi (f:=(bF ds a b k A C i)) (B:=4000+(ds.length-i)-1) (λv st=>zG2 ds a b k _ _ st) (λv st hs=>by
      obtain⟨a1,a2,a3⟩:=zNn Y.ga.good Y.gb.good k _ _ st (af v).1 (ag v).1 (aq v) hs;refine⟨a1,a2,Nat.le_trans a3 ?_⟩;have X:=(af v).2;have h2:=(ag v).2;have h4:=a4.out
      omega) l st Y.wst)
     have f2:inn st.all<=4000:=Nat.le_trans List.countP_le_length gp.out;have e4:=hid f2;clear f2;by_cases bw:kk<(zAM ds p q).length
     ·skip
      obtain⟨vb,iu,es,gh,-,gg⟩:=e9.at_ bw;injection es with es;injection es with hve1 hve2;subst hve1 hve2;have d8:wr.cell? ⟨g,0+kk,none⟩=some (.int .i64 (zAM ds p q)[kk]):=hL.kept.cell (p:=⟨g,0+kk,none⟩) (b6 g (by have:=gh.1;omega)) gg;rw[Nat.zero_add]at d8;have i9:g<wr.heap.size:=lt_of_cell d8;obtain⟨AK,ak,ib,-,-,-⟩:=Row.of_own hL.own (by decide);have aj:=hL.own;have ht:=hL.kept.size;have HL:=hid hL
      have G:=hid (λ(W:World)(O:zA (λb=>c.kept F' b/\vk.ownBlock≠some b) wr W)=>(show W.cell? ⟨c.Gv,0,none⟩=some (.func (.func 117) #[] #[.pointer (some ⟨c.Dv,0,none⟩),.pointer (some ⟨c.Av,0,none⟩),.pointer (some ⟨c.Bv,0,none⟩),.pointer (some ⟨c.Fv,0,none⟩),.pointer (some ⟨c.Mv,0,none⟩),.pointer (some ⟨c.Gv,0,none⟩)])/\W.cell? ⟨c.Av,0,none⟩=some (.slice (some ⟨ab,P,none⟩) a.length acap)/\W.cell? ⟨c.Bv,0,none⟩=some (.slice (some ⟨bb,Q,none⟩) b.length bcap) from by
       have ct:∀b,c.var b->(λb=>c.kept F' b/\vk.ownBlock≠some b) b:=λb E=>⟨hL.mem.var b E,λe=>(hL.row b e).2.2 E⟩
       exact⟨(hL.mem.gv.keep O (ct _ (Or.inr (Or.inr (Or.inr (Or.inr (Or.inr rfl))))))).cell,(hL.mem.av.keep O (ct _ (Or.inr (Or.inl rfl)))).cell,(hL.mem.bv.keep O (ct _ (Or.inr (Or.inr (Or.inl rfl))))).cell⟩))
      subst ib;have dx:((zAM ds p q).take (kk+1))=(zAM ds p q).take kk++[(zAM ds p q)[kk]]:=List.take_succ_eq_append_getElem bw;have gx:=hid (show zW (bF ds a b k A C i) ((zAM ds p q).take (kk+1)) st=((zW (bF ds a b k A C i) ((zAM ds p q).take kk) st).1++[((bF ds a b k A C i) (zAM ds p q)[kk] (zW (bF ds a b k A C i) ((zAM ds p q).take kk) st).2).1],((bF ds a b k A C i) (zAM ds p q)[kk] (zW (bF ds a b k A C i) ((zAM ds p q).take kk) st).2).2) from by rw[dx,zIK]);(have i4:(kk:Int)<((zAM ds p q).length :Int):=by omega);(have dy:(zW (bF ds a b k A C i) ((zAM ds p q).take kk) st).1.length =kk:=by rw[zC4,List.length_take];omega);have di:=hid dy;have fa:=hid (ao ((zAM ds p q).take kk));have e6:=hid (And.intro hw er);clear hL gg dx gh dy ao;generalize (zW (bF ds a b k A C i) ((zAM ds p q).take kk) st).1=kids at*;generalize (zW (bF ds a b k A C i) ((zAM ds p q).take kk) st).2=az at*;generalize (zAM ds p q)[kk]=v at*;go_wp2;refine zY 15 (λW=>zA (λb=>c.kept F' b/\(Value.slice AK kids.length ak).ownBlock ≠some b) wr W) (by kernel_rfl) ?_;have s:(λW=>zA (λb=>c.kept F' b/\(Value.slice AK kids.length ak).ownBlock ≠some b) wr W) wr.drew:=(zA.refl _ _).drew
      (refine tkQ 0 s ?_;simp only[nr])
      (refine tkS 1 ?_ s ?_ ?_;rotate_left;intro w d;obtain⟨h0,X,h2⟩:=G _ d;go_simp;(try with_reducible rfl);simp only[nr])
      (refine tkS 2 ?_ s ?_ ?_;rotate_left;intro w d;obtain⟨h0,X,h2⟩:=G _ d;go_simp;(try with_reducible rfl);simp only[nr])
      (refine tkQ 3 s ?_;simp only[nr])
      (refine tkQ 4 s ?_;simp only[nr])
      (refine tkQ 5 s ?_;simp only[nr])
      (refine tkS 7 ?_ s ?_ ?_;rotate_left;intro w d;obtain⟨h0,X,h2⟩:=G _ d;go_simp;(try with_reducible rfl);simp only[nr])
      (refine tkQ 8 s ?_;simp only[nr])
      (refine tkQ 9 s ?_;simp only[nr])
      (refine tkQ 10 s ?_;simp only[nr])
      refine wS1 6 (λK t=> ?_);(go_wp2_with fail);refine(zOG Zn (.slice (some ⟨ab,P,none⟩) a.length acap) a ds A i v wr.drew (Y.na.keep ((ap.mono λb _ E=>(Y.off b E).1).drew)) Y.ga.good HX.1).mono ?_;rintro e x1 ⟨rfl,fh⟩;have a5:Bw wr x1:=((Below.refl wr.heap.size wr).drew).trans fh;refine t _ _ (Or.inr (.of_below a5)) ?_;clear t K fh s
      (try simp only[nr])
      refine wS1 11 (λK t=> ?_);(go_wp2_with fail);refine(zOG Zn (.slice (some ⟨bb,Q,none⟩) b.length bcap) b ds C i v x1 (Y.nb.keep ((ap.mono λb _ E=>(Y.off b E).1).trans (.of_below a5))) Y.gb.good HX.2.1).mono ?_;rintro e w7 ⟨rfl,c8⟩;have ai:Bw wr w7:=a5.trans (c8.mono a5.size);have fd:(λW=>zA (λb=>c.kept F' b/\(Value.slice AK kids.length ak).ownBlock ≠some b) wr W) w7:= .of_below ai;have ed:=hid (gw _ _ w7 az F' Z' (af v).1 (ag v).1 (aq v) (Y.kid (zA.of_below cz.2) HL ai fa.1 (by have X:=fa.2.2;have h2:=e4.out;have h3:=a4.out;omega)));have ec:=hid ai;refine t _ _ (Or.inr fd) ?_;clear t K a5 c8 ai
      (try simp only[nr])
      refine wS1 12 (λK t=> ?_);(go_wp2_with fail);refine ed.mono ?_;intro e w8 ba;have ej:zA (λb=>c.kept F' b/\(Value.slice AK kids.length ak).ownBlock ≠some b) wr w8:=fd.trans (ba.2.2.mono λb _ E=>E.1);have ax:w8.ownsRow w3.heap.size 3 1 (.slice AK kids.length ak) kids.length (kids.map (.int .i64)):=zXL (zXL HL.own (zA.of_below (Z:=λ_=>True) ec) (λ_ _=>trivial)) ba.2.2 (λk hk=>(HL.row k hk).1);have ip:w3.heap.size<=w8.heap.size:=Nat.le_trans ht (Nat.le_trans ec.size ba.2.2.size);have e8:=hid ba;obtain rfl:=ba.1;refine t _ _ (Or.inr ej) ?_;clear t K ba
      (try simp only[nr])
      have e7:=hid (show(bF ds a b k A C i) v az=zAe ds a b k (zAQ a A i v) (zAQ b C i v) az from rfl);rw[<-e7.out]at e8⊢;generalize (bF ds a b k A C i) v az=r at*;refine wS1 13 (λK t=> ?_);(go_wp2_with fail);refine t _ _ (Or.inr (ej.alloc _)) ?_;clear t K
      (try simp only[nr])
      refine wS1 14 (λK t=> ?_);refine zDR (.tmp 108) (.tmp 121) _ rfl underlying33 Tryz.eInt rfl (ax.alloc _) rfl (news:=[.int .i64 r.1]) rfl (one_cell (by simp)) (by simp[Value.oneCell']) (by have:=di.out;have:=e6.out;unfold maxLen;omega) (by have:=di.out;have:=e6.out;omega) (by simp;omega) ?_;intro v5 jc d7 ci cd;have g0:=hid (HL.step ec e8 ci d7 cd);refine t _ _ (Or.inr ((ej.alloc _).grown ci (λk hk _ hz=>hz.2 hk))) ?_;clear t K ci d7 cd
      (try simp only[nr])
      refine wS1 15 (λK t=> ?_);(go_wp2_with fail);refine t _ _ (Or.inl rfl) ?_;clear t K
      (try simp only[nr])
      refine wSd ?_ _;go_wp2;go_roundw
      case rel=>
       obtain⟨F2,Z2,hc⟩:=g0.out;refine⟨kk+1,_,F2,Z2,by omega,by go_num,rfl,?_⟩;rw[gx.out];exact hc
      case measure=>simp[intOf];omega
     (obtain rfl:kk=(zAM ds p q).length :=by omega);rw[List.take_length]at hL;have f5:=zC4 (f:=(bF ds a b k A C i)) (zAM ds p q) st;have O:=ao (zAM ds p q);have a9:(zW (bF ds a b k A C i) (zAM ds p q) st).1≠[]:=zIA (by simp[zAM]);have ee:=hid (show zAe ds a b (k+1) A C st=((zAb (zW (bF ds a b k A C i) (zAM ds p q) st).2.all i (zAM ds p q) (zW (bF ds a b k A C i) (zAM ds p q) st).1).1,⟨(zAb (zW (bF ds a b k A C i) (zAM ds p q) st).2.all i (zAM ds p q) (zW (bF ds a b k A C i) (zAM ds p q) st).1).2,zCd (zW (bF ds a b k A C i) (zAM ds p q) st).2.done ((A:Int),(C:Int)) (zAb (zW (bF ds a b k A C i) (zAM ds p q) st).2.all i (zAM ds p q) (zW (bF ds a b k A C i) (zAM ds p q) st).1).1⟩) from N.trans (by unfold zUT;rw[br.out]));clear ao N aq af ag;generalize (zW (bF ds a b k A C i) (zAM ds p q) st).1=kids at*;generalize (zW (bF ds a b k A C i) (zAM ds p q) st).2=az at*
     have fg:az.all.length<=5000:=by
      have X:=O.1.tab.len;have h2:=O.2.2;have h3:=e4.out;have h4:=zBf Y.ga.dom;omega
     have cm:∀q∈kids,I64 q:=λq hq=>by
      have:=O.2.1 q hq;have X:=this.1;have h2:=this.2;constructor<;>omega
     have fz:=ap.out;have gd:=hL.kept.size
     have bj:=hid (zML c.M az.all F' Z' (λb=>(w.heap.size<=b/\b<w3.heap.size)\/vk.ownBlock=some b) (i:Int) (.slice (some ⟨g,0,none⟩) (zAM ds p q).length c1) vk (zAM ds p q) kids wr hL.mem.mkr
      ((e9.keep (hL.kept.mono λb _ E=>b6 b (Nat.le_trans de E.1))).mono λb E=>Or.inl ⟨Nat.le_trans de E.1,E.2⟩) ((zHr hL.own cm (by omega)).mono λb E=>Or.inr E)
      (λb E=>by
       rcases E with E|E
       ·exact(zFM hL.hF (b6 b E.1) E.2 (Nat.le_refl _)).1
       exact(hL.row b E).1.1)
      (by have h4:=zBf Y.ga.dom;have h5:=a4.out;constructor<;>omega) f5.symm a9 (by omega) (by omega) (Y.tabAt fz))
     obtain⟨AK,ak,rfl,-,-,-⟩:=Row.of_own hL.own (by decide);have m0:=hL.mem.mv.cell;have eu:=hL.mem.mv.lt;have HL:=hid hL;clear hL f5 O a9 cm fz fg;generalize zAb az.all i (zAM ds p q) kids=o at*;(go_wp2_with fail);refine bj.mono ?_;intro e w8 ba;obtain⟨rfl,⟨F2,Z2,f6,ei,ek⟩,bt⟩:=ba;have aw:=AnW.made HL.mem (Below.refl _ _) f6 ei ek bt;have n0:=aw.dv.cell;have ii:=aw.dv.lt;have gu:=hid aw;have gs:=hid aw.done;have bf:=hid (And.intro bt (And.intro ei ek));clear aw f6 ei ek bt bj m0 eu;go_wp2_with(at_mapUpdate;refine zA6 rfl (.tmp 129) (.tmp 132) _ rfl Tryz.keyP (e:=3) underlying178 rfl (gs) ((A:Int),(C:Int)) rfl ?_;intro w9 f7 bu gf fq fw);have dz:zS zE2 w9 c.db (kvA (zCd az.done ((A:Int),(C:Int)) o.1)):=by rw[<-zPN];exact f7
     have HE:=hid (show zHa c (.slice (some ⟨ab,P,none⟩) a.length acap) (.slice (some ⟨bb,Q,none⟩) b.length bcap) (.slice (some ⟨fb,bm,none⟩) ds.length dcap) w F Z (zAe ds a b (k+1) A C st) (.returned (.int .i64 o.1)) w9 from by
      rw[ee.out];have i7:=bf.1.size;have h6:=cz.2.size;refine⟨rfl,⟨F2,Z2,gu.setDone dz bu,λb E=> ?_,λb E=> ?_⟩,⟨bu.os.trans (bf.1.os.trans ap.os),bu.tape.trans (bf.1.tape.trans ap.tape),bu.output.trans (bf.1.output.trans ap.output),by have:=ap.size;omega,λk hk hz=> ?_⟩⟩
      ·rcases bf.2.1 b E with E|E
       ·rcases HL.hF b E with E|E
        ·exact Or.inl E
        exact Or.inr (by omega)
       exact Or.inr (by omega)
      ·rcases bf.2.2 b E with E|E
       ·rcases HL.hZ b E with E|E
        ·exact Or.inl E
        exact Or.inr (by omega)
       exact Or.inr (by omega)
      have i8:=ap.size
      rw[bu.block k (by omega) hz.2,bf.1.block k (by omega) (zFM HL.hF hz hk (by omega)).1,ap.block k hk hz])
     clear f7 dz bu gf fq fw n0 ii;go_wp2;go_ret;exact HE.out
theorem zTG:∀k:Nat,zSF c (.slice AA a.length acap) (.slice AB b.length bcap) (.slice D ds.length dcap) a b ds Zn B0 k:=by
 intro k
 induction k with
 |zero=>intro x y w st F Z _ _ f _;omega
 |succ k ih=>
 intro x y w st F Z g i f h
 cases d:kvI st.done (x,y)with
 |some r=>
  have e:zAe ds a b (k+1) x y st=(r,st):=by unfold zAe;rw[d]
  rw[e];exact zQm x y h d
 |none=>exact zTF k ih x y f h g i d
end
def AV.of(n A B D:Nat):AV:=⟨n+1+1+1,A,B,D,n+1,n+1+1+1+1,n,n+1+1⟩
def bDv(n:Nat):Obj:= .cells #[.map (some (n+1+1))] 178
def bAv(n A B D:Nat):Obj:= .cells #[(AV.of n A B D).fn] 179
def zKU(w:World)(A B D:Nat):World:=((((w.alloc bMk).alloc (bMv w.heap.size)).alloc (.map #[] 0)).alloc (bDv w.heap.size)).alloc (bAv w.heap.size A B D)
theorem zSG(w:World)(A B D:Nat):(zKU w A B D).heap.size =w.heap.size+5:=by unfold zKU;simp
theorem zLW(w:World)(A B D:Nat):Bw w (zKU w A B D):=
 ((((zG w _).alloc (by simp) _).alloc (by simp;omega) _).alloc (by simp;omega) _).alloc (by simp;omega) _
theorem zTw{A B D:Nat}(i:One w A va)(a:One w B vb)(j:One w D vd):AnW (AV.of w.heap.size A B D) va vb vd (zKU w A B D) ⟨[],[]⟩ (λb=>b=w.heap.size) (λ_=>False):=by
 have c:=i.lt;have d:=a.lt;have f:=j.lt;have g:=zLW w A B D
 refine⟨⟨_,(Blk.new' (((w.alloc bMk).alloc (bMv w.heap.size)).alloc (.map #[] 0)) 178 #[.map (some (w.heap.size+1+1))] (n:=w.heap.size+1+1+1) (by simp)).alloc _⟩,i.below g c,a.below g d,j.below g f,
  ⟨_,(((Blk.new' (w.alloc bMk) 173 #[.pointer (some ⟨w.heap.size,0,none⟩)] (n:=w.heap.size+1) (by simp)).alloc _).alloc _).alloc _⟩,
  ⟨_,Blk.new' ((((w.alloc bMk).alloc (bMv w.heap.size)).alloc (.map #[] 0)).alloc (bDv w.heap.size)) _ #[(AV.of w.heap.size A B D).fn] (n:=w.heap.size+1+1+1+1) (by simp)⟩,?_,?_,?_,?_,?_⟩
 ·exact(MkS.new w).below (w':=zKU w A B D) ((((zG (w.alloc bMk) _).alloc (by simp) _).alloc (by simp) _).alloc (by simp) _)
 ·have k:=((zS.made ((w.alloc bMk).alloc (bMv w.heap.size)) zE2).alloc (bDv w.heap.size)).alloc (bAv w.heap.size A B D);have e:((w.alloc bMk).alloc (bMv w.heap.size)).heap.size =w.heap.size+1+1:=by simp
  rw[e]at k;exact k
 ·intro b a;refine⟨λe=> ?_,?_⟩
  ·subst e;rcases a with a|a|a|a|a|a<;>(unfold AV.of at a;simp only at a;omega)
  show b≠w.heap.size+1+1;rcases a with a|a|a|a|a|a<;>(unfold AV.of at a;simp only at a;omega)
 ·show ¬(w.heap.size+1+1=w.heap.size);omega
 exact λh=>h
theorem zTx(Z:zD)(va vb vd:Value)(a b:List zB)(ds:List zE)(w:World)(ha:zK Z w va a)(j:zK Z w vb b)(hd:Facts Z w vd ds)(hz:∀b,Z b->b<w.heap.size)(y:zBr w.heap.size w):
  Calls prog 65 #[.agg #[va],.agg #[vb],.agg #[vd]] w (zKI (λ_=>False) (zGc ds a b) w):=by
 by_cases hv:zBo ds a=true/\zBo ds b=true
 ·obtain⟨J,K⟩:=hv;have HU:=hid (show zGc ds a b=(if 4000<(zAe ds a b (ds.length+1) 0 0 ⟨[],[]⟩).2.all.length then([],2)else zCw ds (zAe ds a b (ds.length+1) 0 0 ⟨[],[]⟩).2.all (zAe ds a b (ds.length+1) 0 0 ⟨[],[]⟩).1) from by unfold zGc zCw;rw[if_pos ⟨J,K⟩]);have k:=zD0.1 J;have o:=zD0.1 K;have N:=hid (λh=>zIg (zGU k.dom) k.good o.good (zKv k.good o.good) (ds.length+1) 0 0 ⟨[],[]⟩ (zGK.2 ⟨k.rng,o.rng⟩) (zIB k o) zHM.new (Or.inr h));have O:=hid (zNn k.good o.good (ds.length+1) 0 0 ⟨[],[]⟩ k.rng o.rng (zIB k o) zFz.new);have I:=hid k;have Q:=hid o;have aj:=hid J;have ak:=hid K;have HZ:=hid hz;have ac:=hid y;clear J K k o;obtain⟨AA,acap,rfl,-,-,-⟩:=ha.open_;obtain⟨AB,bcap,rfl,-,-,-⟩:=j.open_;obtain⟨D,dcap,rfl,-,-,-⟩:=hd.open_;have c:=hid (Dw.start ha j hd hz y);have eg:=Tryz.egAnd1;have a1:= @run_makeMap prog;clear ha j hd hz y;go_enter func65,ntmps65
  have H:=hid (Blk.new' (((w.alloc (.cells #[.slice AA a.length acap] 74)).alloc (.cells #[.slice AB b.length bcap] 74)).alloc (.cells #[.slice D ds.length dcap] 25)) 74 #[.slice none 0 0] (n:=w.heap.size+1+1+1) (by simp));replace c:=hid (c.on ((zG _ (.cells #[.slice none 0 0] 74)).mono (Nat.le_refl _)));go_upto_region 1 with fail
  generalize (((w.alloc _).alloc _).alloc _).alloc _=w1 at*;have a0:=c.ab.at0;have al:w.heap.size<w1.heap.size:=c.ab.lt;have b0:=c.bb.at0;have bl:w.heap.size+1<w1.heap.size:=c.bb.lt;have d0:=c.db.at0;have dl:w.heap.size+1+1<w1.heap.size:=c.db.lt;have P:=hid (zEO Z (.slice AA a.length acap) (.slice D ds.length dcap) a ds _ c.na c.fs c.tab);rw[aj.out]at P;go_wp2_with fail
  refine P.mono ?_;rintro e w2 ⟨rfl,j⟩;replace c:=hid (c.on j);replace H:=hid (H.below j H.lt);clear j P a0 al b0 bl d0 dl;have a0:=c.ab.at0;have al:w.heap.size<w2.heap.size:=c.ab.lt;have b0:=c.bb.at0;have bl:w.heap.size+1<w2.heap.size:=c.bb.lt;have d0:=c.db.at0;have dl:w.heap.size+1+1<w2.heap.size:=c.db.lt;have P:=hid (zEO Z (.slice AB b.length bcap) (.slice D ds.length dcap) b ds _ c.nb c.fs c.tab);rw[ak.out]at P;go_wp2_with fail
  refine P.mono ?_;rintro e q ⟨rfl,j⟩;replace c:=hid (c.on j);replace H:=hid (H.below j H.lt);clear j P a0 al b0 bl d0 dl;go_wp2_with fail
  change Calls prog _ _ (zKU q w.heap.size (w.heap.size+1) (w.heap.size+1+1)) _;have ax:=zSG q w.heap.size (w.heap.size+1) (w.heap.size+1+1);have z:=zLW q w.heap.size (w.heap.size+1) (w.heap.size+1+1);have ae:=zTw (w:=q) ⟨_,c.ab⟩ ⟨_,c.bb⟩ ⟨_,c.db⟩;generalize zKU q w.heap.size (w.heap.size+1) (w.heap.size+1+1)=W9 at*;have R:=c.below;have ag:=R.size;have a2:=H.lt;have t:Bw w W9:=R.trans (z.mono ag);have aa:=hid (H.below z H.lt)
  have X:=hid (show zEf (AV.of q.heap.size w.heap.size (w.heap.size+1) (w.heap.size+1+1)) (.slice AA a.length acap) (.slice AB b.length bcap) (.slice D ds.length dcap) a b ds Z w.heap.size W9 ⟨[],[]⟩ (λb=>b=q.heap.size) (λ_=>False) from by
   refine⟨ae,c.na.keep (.of_below z),c.nb.keep (.of_below z),c.fs.keep (.of_below z),λx hx=>⟨⟨λe=> ?_,λe=> ?_⟩,?_⟩,ac.on t,⟨t.size,λx hx=>by subst hx;exact ag,?_⟩,zFz.new,by simp[inn],I.out,Q⟩
   ·have:=HZ x hx;omega
   ·have:=HZ x hx;have e:x=q.heap.size+1+1:=e;omega
   ·have:=HZ x hx;omega
   show w.heap.size<=q.heap.size+1+1;omega)
  have A:=hid (zTG (ds.length+1) 0 0 W9 ⟨[],[]⟩ (λb=>b=q.heap.size) (λ_=>False) I.rng Q.rng (zIB I Q) X);have W:=hid t;clear ae z t R c H;refine A.mono ?_;clear A;intro e s ah;obtain⟨rfl,⟨F',Z',u,ap,ad⟩,d⟩:=ah;have g:Blk s (w.heap.size+1+1+1) 74 #[.slice none 0 0]:=aa.keep d ⟨λe=>by have e:w.heap.size+1+1+1=q.heap.size:=e;omega,λe=>by have e:w.heap.size+1+1+1=q.heap.size+1+1:=e;omega⟩;have E:Bw w s:=W.trans ⟨d.os,d.tape,d.output,d.size,λb j=>d.block b (by have:=W.size;omega) ⟨λe=>by have e:b=q.heap.size:=e;omega,λe=>by have e:b=q.heap.size+1+1:=e;omega⟩⟩;have m0:s.cell? ⟨q.heap.size+1,0,none⟩=some (.pointer (some ⟨q.heap.size,0,none⟩)):=u.mv.cell;have au:q.heap.size+1<s.heap.size:=u.mv.lt;have T:MkS s q.heap.size (zAe ds a b (ds.length+1) 0 0 ⟨[],[]⟩).2.all F' Z':=u.mkr;obtain⟨AL,ao,l0,ar⟩:=T.all_cell
  have aw:(zAe ds a b (ds.length+1) 0 0 ⟨[],[]⟩).2.all.length <=5000:=by
   have h1:=O.1.tab.len;have h2:=O.2.2;have h4:=zBf I.dom;have h5:inn []=0:=rfl;simp only[h5]at h2;omega
  have az:=d.size;have Y:=hid (And.intro T (λb j=>(by rcases ad b j with h|h;exact h.elim;omega:w.heap.size+1+1+1<b)));have f:=hid (And.intro g E);have r0:=g.at0;have rf:s.frozen? ⟨w.heap.size+1+1+1,0,none⟩=false:=g.frozen 0;have rl:w.heap.size+1+1+1<s.heap.size:=g.lt;clear u ap ad d g E T aa X O;generalize zAe ds a b (ds.length+1) 0 0 ⟨[],[]⟩=r at*;by_cases m:4000<r.2.all.length
  ·have HQ:=hid (HU.trans (if_pos m));(have e1:decide ((4000:Int)<(r.2.all.length:Int))=true:=by simp;omega);(have e2:decide (4000<r.2.all.length)=true:=by simp;omega);clear m HU N;go_wp2;have r1:=(f.1.set_ 0 (.slice none 0 0)).cell 0;refine bodyPost_ret (v:= .tuple #[.agg #[.slice none 0 0],.int .i64 2]) (by simp[results,results65,go_sem,r1]) rfl ?_;rw[HQ.out];exact⟨_,rfl,zEp _ _,f.2.setCell (p:=⟨w.heap.size+1+1+1,0,none⟩) (by show w.heap.size<=w.heap.size+1+1+1;omega) _⟩
  have HQ:=hid (HU.trans (if_neg m));have e1:decide ((4000:Int)<(r.2.all.length:Int))=false:=by simp;omega
  have e2:decide (4000<r.2.all.length)=false:=by simp;omega
  obtain⟨af,L⟩:=N (by omega);have ai:=hid (zKJ ds r.2.all af.good (by omega) q.heap.size F' Z' r.1 s L.rng Y.1);clear m HU N af L;go_wp2_with fail
  refine ai.mono ?_;rintro e U ⟨av,rfl,M,C⟩;have i:=f.1.below C f.1.lt;have F:=f.2.trans (C.mono f.2.size);clear r0 rf rl m0 au l0 ar;have r0:=i.at0;have rf:U.frozen? ⟨w.heap.size+1+1+1,0,none⟩=false:=i.frozen 0;have rl:w.heap.size+1+1+1<U.heap.size:=i.lt
  have G:zK (λb=>w.heap.size<=b/\b≠w.heap.size+1+1+1) U av (zCw ds r.2.all r.1).1:=M.mono λb j=>by
   have ay:=f.1.lt;rcases j with j|j
   ·have:=Y.2 b j;omega
   omega
  obtain⟨V,B,rfl,-⟩:=M;have HN:=hid (And.intro G (And.intro i F));clear G i F C;go_wp2;have r1:=(HN.2.1.set_ 0 (.slice V (zCw ds r.2.all r.1).1.length B)).cell 0;refine bodyPost_ret (v:= .tuple #[.agg #[.slice V (zCw ds r.2.all r.1).1.length B],.int .i64 (zCw ds r.2.all r.1).2]) (by simp[results,results65,go_sem,r1]) rfl ?_;rw[HQ.out];exact⟨_,rfl,(HN.1.keep ((zA.refl _ _).setCell (λ_ h=>h.2 rfl) _)).mono (λb j=>Or.inr j.1),HN.2.2.setCell (p:=⟨w.heap.size+1+1+1,0,none⟩) (by show w.heap.size<=w.heap.size+1+1+1;omega) _⟩
 have hr:zBo ds a=false\/zBo ds b=false:=by cases h1:zBo ds a<;>cases h2:zBo ds b<;>simp_all
 have e:zGc ds a b=([],1):=by unfold zGc;rw[if_neg hv]
 rw[e];refine(zOx Z va vb vd a b ds w ha j hd hz y hr).mono ?_;rintro e w' ⟨rfl,aq⟩;exact⟨_,rfl,zEp _ _,aq⟩
theorem zA.ne2{w w' a:World}(h:zA Z w w')(k:zA (λb=>b≠B) w' a)(c:w.heap.size<=B):zA Z w a:=
 ⟨k.os.trans h.os,k.tape.trans h.tape,k.output.trans h.output,Nat.le_trans h.size k.size,λi hi d=>(k.block i (Nat.lt_of_lt_of_le hi h.size) (Nat.ne_of_lt (Nat.lt_of_lt_of_le hi c))).trans (h.block i hi d)⟩
theorem zSH(Z:zD)(w:World):zK Z w (.slice none 0 0) []:=⟨none,0,rfl,by simp,by decide,by simp,trivial⟩
section
open Go.Shelf
theorem zVZ(Z Z':zD)(v J:Value)(xs ys:List ByteArray)(w:World)(B:Names Z w v xs)(C:Names Z' w J ys):
  Calls prog 54 #[v,J] w λe w'=>e= .returned (.bool (decide (xs=ys)))/\Bw w w':=by
 obtain⟨A,N,rfl,-,-,U⟩:=B.form;obtain⟨X,F,rfl,-,-,V⟩:=C.form;have L:=hid B;have M:=hid C;clear B C;go_enter func54,ntmps54
 by_cases t:xs.length=ys.length
 ·have O:((xs.length:Int)!=(ys.length:Int))=false:=by simp[t]
  have E:=hid t;clear t;go_wp2;go_loopw[5] (λi wr=>∃k:Nat,k<=xs.length/\i= .int .i64 k/\Bw w wr/\Hid (xs.take k=ys.take k)) (λi _=>xs.length-(intOf i).toNat);case atStart=>exact⟨0,Nat.zero_le _,rfl,Below.refl _ _,by simp[Hid]⟩
  case round=>
   obtain⟨k,hk,rfl,a,c⟩:=hrel;by_cases n:k<xs.length
   ·(have f:k<ys.length:=by rw[<-E.out];exact n);obtain⟨b,W,rfl,-,G,z⟩:=L.at_ n;obtain⟨Y,I,rfl,-,s,m⟩:=M.at_ f;replace z:=brd a z G;replace m:=brd a m s;have P:=lt_of_cell z;have H:=lt_of_cell m;have j:=hid (λe=>zIy n f c e);have g:=hid (show xs[k]≠ys[k]->xs≠ys from λh e=>h (by subst e;rfl));(have R:((k:Nat):Int)<(xs.length:Int):=by omega);(have T:((k:Nat):Int)<(ys.length:Int):=by omega);(have Q:(0:Int)<=((k:Nat):Int):=by omega);have D:=hid a;clear a G s c;generalize xs[k]=x at*;generalize ys[k]=y at*;by_cases d:x=y
    ·have q:=hid (j d);subst d;clear j g;go_wp2;go_quiet(fail);go_wp2;go_roundw;(case rel=>exact⟨k+1,by omega,by go_num,below_drewN' D _,q⟩);case measure=>simp[intOf];omega
    (have e2:(x.toList==y.toList)=false:=by rw[zBK];simp[d]);have o:=hid (g d);clear j g;go_wp2;go_quiet(fail);go_wp2;go_ret;rw[decide_eq_false o.out];exact⟨rfl,below_drewN' D _⟩
   (obtain rfl:k=xs.length:=by omega);have u:=hid (show xs=ys from by have h:=c.out;rw[List.take_length]at h;rw[h,E.out,List.take_length]);clear c;go_wp2;go_ret;rw[decide_eq_true u.out];exact⟨rfl,a⟩
 have O:((xs.length:Int)!=(ys.length:Int))=true:=by simp;omega
 have K:=hid (show xs≠ys from λe=>t (by rw[e]));clear t;go_wp2;go_ret;rw[decide_eq_false K.out];exact⟨rfl,Below.refl _ _⟩
def zU8(x y:zGL):Bool:=decide (x.kind=y.kind)&&decide (x.forbids=y.forbids)&&decide (x.blocks=y.blocks)
theorem zUh(Z Z':zD)(p q r t:Value)(x y:zGL)(w:World)(hp:Names Z w p x.forbids)(hq:Names Z w q x.blocks)(hr:Names Z' w r y.forbids)(ht:Names Z' w t y.blocks)(hz:∀b,Z b->b<w.heap.size)(j:∀b,Z' b->b<w.heap.size):
  Calls prog 18 #[.agg #[.int .i64 x.kind,p,q],.agg #[.int .i64 y.kind,r,t]] w λe w'=>e= .returned (.bool (zU8 x y))/\Bw w w':=by
 have C:=hid (λW(u:Bw w W)=>zVZ Z Z' p r _ _ W (hp.keep (.of_below_lt u λb _ i=>hz b i)) (hr.keep (.of_below_lt u λb _ i=>j b i)));have D:=hid (λW(u:Bw w W)=>zVZ Z Z' q t _ _ W (hq.keep (.of_below_lt u λb _ i=>hz b i)) (ht.keep (.of_below_lt u λb _ i=>j b i)));obtain⟨J,K,rfl,-⟩:=hp.form;obtain⟨L,M,rfl,-⟩:=hq.form;obtain⟨N,O,rfl,-⟩:=hr.form;obtain⟨P,Q,rfl,-⟩:=ht.form;clear hp hq hr ht hz j;have g:=hid (show zU8 x y=(decide (x.kind=y.kind)&&decide (x.forbids=y.forbids)&&decide (x.blocks=y.blocks)) from rfl);obtain⟨fb,z⟩:∃t,decide (x.forbids=y.forbids)=t:=⟨_,rfl⟩;obtain⟨gb,A⟩:∃t,decide (x.blocks=y.blocks)=t:=⟨_,rfl⟩;rw[z]at C g;rw[A]at D g;clear z A;generalize zU8 x y=sv at*;obtain⟨d,xf,xb⟩:=x;obtain⟨f,yf,yb⟩:=y;simp only at C D g;generalize xf.length=T at*;generalize xb.length=R at*;generalize yf.length=V at*;generalize yb.length=U at*;have H:=Blk.newE (n:=w.heap.size) w 36 #[.int .i64 d,.slice J T K,.slice L R M] rfl;have B:=zCX w (.cells #[.int .i64 d,.slice J T K,.slice L R M] 36) (.cells #[.int .i64 f,.slice N V O,.slice P U Q] 36);have s:=Blk.newE (n:=w.heap.size+1) (w.alloc (.cells #[.int .i64 d,.slice J T K,.slice L R M] 36)) 36 #[.int .i64 f,.slice N V O,.slice P U Q] (by simp);have H:=H.alloc (.cells #[.int .i64 f,.slice N V O,.slice P U Q] 36);go_enter func18,ntmps18
 go_upto_region 1 with fail
 generalize (w.alloc _).alloc _=w0 at*;have F:=hid H;have G:=hid s;have E:=hid B;clear H s B;obtain⟨a0,aa,a1,ab,a2,ac,al⟩:=F.out.d3;obtain⟨b0,ad,b1,ae,b2,af,bl⟩:=G.out.d3;by_cases I:d=f
 ·have a:decide (d=f)=true:=decide_eq_true I;have k:=hid (C w0 E);subst I;clear C;go_wp2_with fail
  refine k.mono ?_;rintro e w2 ⟨rfl,c⟩;have h:=hid (zC E c);have X:=hid (F.below c F.lt);have Y:=hid (G.below c G.lt);clear c k F G E;obtain⟨a0,aa,a1,ab,a2,ac,al⟩:=X.out.d3;obtain⟨b0,ad,b1,ae,b2,af,bl⟩:=Y.out.d3
  cases fb with
  |true=>
   have m:=hid (D w2 h);clear D;(go_wp2_with fail);refine m.mono ?_;rintro e w3 ⟨rfl,v⟩;have o:=hid (zC h v);clear v m
   cases gb with
   |true=>
    (go_wp2_with fail);go_ret;exact⟨by rw[g.out,a];rfl,o⟩
   |false=>
   (go_wp2_with fail);go_ret;exact⟨by rw[g.out,a];rfl,o⟩
  |false=>
  go_wp2_with fail
  go_ret;exact⟨by rw[g.out,a];rfl,h⟩
 have a:decide (d=f)=false:=decide_eq_false I;have e1:(d==f)=false:=by simpa using I
 go_wp2_with fail
 go_ret;exact⟨by rw[g.out,a];rfl,E⟩
end
section
open Go.Shelf
def zUt(x y:zHQ):Bool:=decide (x.signed=y.signed)&&decide (x.now=y.now)&&decide (x.cas=y.cas)&&zU8 x.a y.a&&zU8 x.b y.b
structure CoR (Z:zD) (w:World) (vc p q r t:Value) (x:zHQ):Prop where
 c:zO Z w vc x.cas
 p:Names Z w p x.a.forbids
 q:Names Z w q x.a.blocks
 r:Names Z w r x.b.forbids
 t:Names Z w t x.b.blocks
theorem CoR.keep{b p q r t:Value}(h:CoR Z w b p q r t x)(a:zA Z w w'):CoR Z w' b p q r t x:=⟨h.c.keep a,h.p.keep a,h.q.keep a,h.r.keep a,h.t.keep a⟩
theorem CoR.mono{d p q r t:Value}(h:CoR Z w d p q r t x)(a:∀b,Z b->Z' b):CoR Z' w d p q r t x:=⟨h.c.mono a,h.p.mono a,h.q.mono a,h.r.mono a,h.t.mono a⟩
theorem zVo(Z Z':zD)(vc p q r t V p' q' r' t':Value)(x y:zHQ)(w:World)(h:CoR Z w vc p q r t x)(i:CoR Z' w V p' q' r' t' y)(R:∀b,Z b->b<w.heap.size)(f:∀b,Z' b->b<w.heap.size):
  Calls prog 14 #[.agg #[.int .i64 x.signed,.int .i64 x.now,vc,.int .i64 x.a.kind,p,q,.int .i64 x.b.kind,r,t],.agg #[.int .i64 y.signed,.int .i64 y.now,V,.int .i64 y.a.kind,p',q',.int .i64 y.b.kind,r',t']] w λe w'=>e= .returned (.bool (zUt x y))/\Bw w w':=by
 have HF:=hid (λW(g:Bw w W)=>zSo Z Z' vc V _ _ W (h.c.keep (.of_below_lt g λb _ d=>R b d)) (i.c.keep (.of_below_lt g λb _ d=>f b d)));have HG:=hid (λW(g:Bw w W)=>zUh Z Z' p q p' q' x.a y.a W (h.p.keep (.of_below_lt g λb _ d=>R b d)) (h.q.keep (.of_below_lt g λb _ d=>R b d)) (i.p.keep (.of_below_lt g λb _ d=>f b d)) (i.q.keep (.of_below_lt g λb _ d=>f b d)) (λb d=>Nat.lt_of_lt_of_le (R b d) g.size) (λb d=>Nat.lt_of_lt_of_le (f b d) g.size));have HH:=hid (λW(g:Bw w W)=>zUh Z Z' r t r' t' x.b y.b W (h.r.keep (.of_below_lt g λb _ d=>R b d)) (h.t.keep (.of_below_lt g λb _ d=>R b d)) (i.r.keep (.of_below_lt g λb _ d=>f b d)) (i.t.keep (.of_below_lt g λb _ d=>f b d)) (λb d=>Nat.lt_of_lt_of_le (R b d) g.size) (λb d=>Nat.lt_of_lt_of_le (f b d) g.size));obtain⟨c1,c2,rfl,-⟩:=h.c.form;obtain⟨d1,d2,rfl,-⟩:=i.c.form;obtain⟨p1,p2,rfl,-⟩:=h.p.form;obtain⟨q1,q2,rfl,-⟩:=h.q.form;obtain⟨r1,r2,rfl,-⟩:=h.r.form;obtain⟨t1,t2,rfl,-⟩:=h.t.form;obtain⟨p3,p4,rfl,-⟩:=i.p.form;obtain⟨q3,q4,rfl,-⟩:=i.q.form;obtain⟨r3,r4,rfl,-⟩:=i.r.form;obtain⟨t3,t4,rfl,-⟩:=i.t.form;clear h i R f;have j:=hid (show zUt x y=(decide (x.signed=y.signed)&&decide (x.now=y.now)&&decide (x.cas=y.cas)&&zU8 x.a y.a&&zU8 x.b y.b) from rfl);obtain⟨fb,af⟩:∃t,decide (x.cas=y.cas)=t:=⟨_,rfl⟩;obtain⟨gb,ag⟩:∃t,zU8 x.a y.a=t:=⟨_,rfl⟩;obtain⟨ib,ah⟩:∃t,zU8 x.b y.b=t:=⟨_,rfl⟩;rw[af]at HF j;rw[ag]at HG j;rw[ah]at HH j;clear af ag ah;generalize zUt x y=sv at*;obtain⟨Y,X,xc,⟨xk,xf,xb⟩,⟨xl,xg,xh⟩⟩:=x;obtain⟨ys,yn,yc,⟨yk,yf,yb⟩,⟨yl,yg,yh⟩⟩:=y;simp only at HF HG HH j;generalize xc.length=n1 at*;generalize yc.length=n2 at*;generalize xf.length=n3 at*;generalize yf.length=n4 at*;generalize xb.length=n5 at*;generalize yb.length=n6 at*;generalize xg.length=n7 at*;generalize yg.length=n8 at*;generalize xh.length=n9 at*;generalize yh.length=Q at*;have ai:=zCX w (.cells #[.int .i64 Y,.int .i64 X,.slice c1 n1 c2,.int .i64 xk,.slice p1 n3 p2,.slice q1 n5 q2,.int .i64 xl,.slice r1 n7 r2,.slice t1 n9 t2] 38) (.cells #[.int .i64 ys,.int .i64 yn,.slice d1 n2 d2,.int .i64 yk,.slice p3 n4 p4,.slice q3 n6 q4,.int .i64 yl,.slice r3 n8 r4,.slice t3 Q t4] 38);have bx:=(Blk.newE (n:=w.heap.size) w 38 #[.int .i64 Y,.int .i64 X,.slice c1 n1 c2,.int .i64 xk,.slice p1 n3 p2,.slice q1 n5 q2,.int .i64 xl,.slice r1 n7 r2,.slice t1 n9 t2] rfl).alloc (.cells #[.int .i64 ys,.int .i64 yn,.slice d1 n2 d2,.int .i64 yk,.slice p3 n4 p4,.slice q3 n6 q4,.int .i64 yl,.slice r3 n8 r4,.slice t3 Q t4] 38);have ad:=Blk.newE (n:=w.heap.size+1) (w.alloc (.cells #[.int .i64 Y,.int .i64 X,.slice c1 n1 c2,.int .i64 xk,.slice p1 n3 p2,.slice q1 n5 q2,.int .i64 xl,.slice r1 n7 r2,.slice t1 n9 t2] 38)) 38 #[.int .i64 ys,.int .i64 yn,.slice d1 n2 d2,.int .i64 yk,.slice p3 n4 p4,.slice q3 n6 q4,.int .i64 yl,.slice r3 n8 r4,.slice t3 Q t4] (by simp);go_enter func14,ntmps14
 go_upto_region 1 with fail
 generalize (w.alloc _).alloc _=w0 at*;have HX:=hid bx;have HY:=hid ad;have HW:=hid ai;clear bx ad ai;obtain⟨a0,s,a1,u,a2,v,a3,z,a4,A,a5,B,a6,C,a7,D,a8,E,al⟩:=HX.out.d9;obtain⟨b0,F,b1,G,b2,H,b3,I,b4,J,b5,K,b6,L,b7,M,b8,N,bl⟩:=HY.out.d9;by_cases hk:Y=ys
 ·subst hk;by_cases U:X=yn
  ·subst U;have aa:=hid (HF w0 HW);clear HF;(go_wp2_with fail);refine aa.mono ?_;rintro e w2 ⟨rfl,O⟩;have k:=hid (zC HW O);have m:=hid (HX.below O HX.lt);have o:=hid (HY.below O HY.lt);clear a0 s a1 u a2 v a3 z a4 A a5 B a6 C a7 D a8 E b0 F b1 G b2 H b3 I b4 J b5 K b6 L b7 M b8 N al bl;clear O aa HX HY HW;obtain⟨a0,s,a1,u,a2,v,a3,z,a4,A,a5,B,a6,C,a7,D,a8,E,al⟩:=m.out.d9;obtain⟨b0,F,b1,G,b2,H,b3,I,b4,J,b5,K,b6,L,b7,M,b8,N,bl⟩:=o.out.d9
   cases fb with
   |true=>
    have ab:=hid (HG w2 k);clear HG;(go_wp2_with fail);refine ab.mono ?_;rintro e w3 ⟨rfl,P⟩;have T:=hid (zC k P);have ao:=hid (m.below P m.lt);have ap:=hid (o.below P o.lt);clear a0 s a1 u a2 v a3 z a4 A a5 B a6 C a7 D a8 E b0 F b1 G b2 H b3 I b4 J b5 K b6 L b7 M b8 N al bl;clear P ab m o k;obtain⟨a0,s,a1,u,a2,v,a3,z,a4,A,a5,B,a6,C,a7,D,a8,E,al⟩:=ao.out.d9;obtain⟨b0,F,b1,G,b2,H,b3,I,b4,J,b5,K,b6,L,b7,M,b8,N,bl⟩:=ap.out.d9
    cases gb with
    |true=>
     have ac:=hid (HH w3 T);clear HH;(go_wp2_with fail);refine ac.mono ?_;rintro e w4 ⟨rfl,ae⟩;have ak:=hid (zC T ae);clear ae ac;(go_wp2_with fail);go_ret;exact⟨by rw[j.out];simp,ak⟩
    |false=>
    (go_wp2_with fail);go_ret;exact⟨by rw[j.out];simp,T⟩
   |false=>
   (go_wp2_with fail);go_ret;exact⟨by rw[j.out];simp,k⟩
  have aj:=hid U;have e1:(X==yn)=false:=by simpa using U
  go_wp2_with fail
  go_ret;exact⟨by rw[j.out,decide_eq_false aj.out];simp,HW⟩
 have HK:=hid hk;have e1:(Y==ys)=false:=by simpa using hk
 go_wp2_with fail
 go_ret;exact⟨by rw[j.out,decide_eq_false HK.out];rfl,HW⟩
end
end Go.Proofs.YtommaegelgilnaaGreatDoor
