/- Texts W74. -/
import Derived.Test.YtonmdbdopchkaaaGreatDoorM46
set_option linter.all false
namespace Go.Proofs.YtonmdbdopchkaaaGreatDoor
open Go.RowKit
set_option maxHeartbeats 8000000
set_option maxRecDepth 100000
theorem Tryz.egAnd1:∀args w,(callFunc 43 args).run Tryz.prog w= .ok (.enter 43 args) w:=enters_of Tryz.func43 (by kernel_rfl) rfl
theorem zDy{P:Program}{o:Oper}{a:Act}{w:World}{K:Act->World->Prop}{Q:Exit->Act->World->Prop}(ty:TypeId)(x y:Operand)(ho:o.op= .store ty x y){g:Nat}{t:TypeId}{cs cells:Array Value}(hx:a.eval x= .pointer (some ⟨g,0,none⟩))(hy:a.eval y= .agg cells)
  (hb:Blk w g t cs)(hs:cs.size=cells.size)(hi:(P.info? ty).map (·.size)=some cells.size)(h1:cells.all (·.oneCell')=true)
  (h:∀w1,Blk w1 g t cells->zA (λb=>b≠g) w w1->w1.heap.size=w.heap.size->K (a.put o.dst undef) w1):Oper.wp P o a w K Q:=by
 refine wp_store_mid ty x y ho g 0 cells hx hy (hs▸hb.there) hi h1 ?_;obtain⟨s1,s2,s3,s4⟩:=size_setCells g cells.toList 0 w;refine h _ ?_ ⟨s2,s3,s4,Nat.le_of_eq s1.symm,λk _ hk=>zBX g _ 0 w k hk⟩ s1;have:Blk (w.setCells g 0 cells.toList) g t (zC8 cs cells.toList 0):=by first|exact Blk.setCells cells.toList 0 w cs hb|exact Blk.setCells (w:=w) cells.toList 0 w cs hb
 rwa[zJ7 (by simpa using hs.symm),Array.toArray_toList]at this
theorem zUZ{lo hi:Int}{q:List Int}(hq:∀v∈q,lo<v∧v≤hi):Lib.compact ((lo::q).mergeSort λa b=>decide (a≤b))=lo::zD2 q:=by
 have hsort:((lo::q).mergeSort λa b=>decide (a≤b)).Pairwise (· ≤ ·):=by
  have:=List.pairwise_mergeSort (le:=λa b:Int=>decide (a≤b)) (λa b c h1 h2=>by simp at h1 h2⊢;omega) (λa b=>by simp;omega) (lo::q);exact this.imp λh=>by simpa using h
 obtain⟨h1,h2⟩:=zI7 hsort;generalize Lib.compact ((lo::q).mergeSort λa b=>decide (a≤b))=L at*
 have hmem:∀v,v∈L↔(v=lo∨v∈q):=λv=>by
  rw[h2,List.mem_mergeSort,List.mem_cons]
 have hlo:lo∈L:=(hmem _).2 (Or.inl rfl)
 cases L with
 |nil=>simp at hlo
 |cons a r=>
  have h1':=h1;rw[List.pairwise_cons]at h1
  have ha:a=lo:=by
   rcases(hmem a).1 (by simp)with h|h
   ·exact h
   ·rcases List.mem_cons.1 hlo with h'|h'
    ·exact h'.symm
    ·have:=h1.1 _ h';have:=(hq _ h).1;omega
  subst ha
  have hb:∀v∈r,v≤hi:=λv hv=>by
   rcases(hmem v).1 (List.mem_cons_of_mem _ hv)with h|h
   ·have:=h1.1 v hv;omega
   ·exact(hq v h).2
  congr 1;refine zJQ (zEk h1' hb) (zE1 hq) λv=> ?_
  rw[zCb];constructor
  ·intro hv;rcases(hmem v).1 (List.mem_cons_of_mem _ hv)with h|h
   ·have:=h1.1 v hv;omega
   ·exact h
  ·intro hv;rcases List.mem_cons.1 ((hmem v).2 (Or.inr hv))with h|h
   ·have:=(hq v hv).1;omega
   ·exact h
section
variable {c:AV} {AA AB D:Option Addr} {acap bcap dcap:Nat} {a b:List zB} {ds:List zC} {Zn:zD} {B0:Nat} {w:World} {st:ASt} {F Z:zD}
theorem zHd:∀{l:List Int}{lo hi:Int},zk lo hi l->lo≤hi->(l.length:Int)≤hi-lo
 |[],_,_,_,h=>by simp;omega
 |c::l,lo,hi,h,_=>by
  have:=zHd h.2.2 h.2.1;have:=h.1;simp only[List.length_cons];omega
def zEW(lo:Int)(pc qc:List Int)(j:Nat):List Int:=lo::((if 0<j then pc else[])++(if 1<j then qc else[]))
theorem zOQ{lo:Int}{pc qc:List Int}(j:Nat)(hp:pc.length≤1000000)(hq:qc.length≤1000000):(zEW lo pc qc j).length ≤2000001:=by
 unfold zEW;rw[List.length_cons,List.length_append];split<;>split<;>simp<;>omega
def zAP(ds:List zC)(i:Nat)(n:zB):List Int:=if zF ds n=i then n.cuts else[]
theorem zLA{i:Nat}{n:zB}{lo hi:Int}(h:zF ds n=i->n.cuts≠[]∧zk lo hi n.cuts)(hb:lo≤hi∧hi-lo≤1000000):(zAP ds i n).length ≤1000000:=by
 unfold zAP;split
 ·rename_i e;have:=zHd (h e).2 hb.1;omega
 ·simp
theorem zPm{g:List zB}(hg:Good ds g){x:Int}(hx:Rng g x){n:zB}(hn:nAt g x=n){i:Nat}(hi:i<ds.length){fx:zC}(hf:fAt ds (i:Int)=fx)(h:zF ds n=i):n.cuts≠[]∧zk fx.lo fx.hi n.cuts:=by
 subst hn hf
 have hk:(nAt g x).kids ≠[]:=by
  intro hk;unfold zF at h;rw[if_pos hk]at h;omega
 have I:=hg.inner hx hk;have hfi:(nAt g x).fact =i:=by unfold zF at h;rw[if_neg hk]at h;exact h
 refine⟨I.cuts,?_⟩;have:=I.asc;rwa[hfi]at this
def bF(ds:List zC)(a b:List zB)(k:Nat)(x y i:Int)(v:Int)(st:ASt):Int × ASt:=zAR ds a b k (zG a x i v) (zG b y i v) st
def zUl(ds:List zC)(a b:List zB)(k:Nat)(x y:Int)(st:ASt)(p q:zB):Int × ASt:=
 let r:=zH (bF ds a b k x y (min (zF ds p) (zF ds q))) (zi ds p q) st;let o:=zb r.2.all (min (zF ds p) (zF ds q)) (zi ds p q) r.1
 (o.1,⟨o.2,zCI r.2.done (x,y) o.1⟩)
theorem zU0(k:Nat)(x y:Int)(hkn:kvI st.done (x,y)=none){p q:zB}(hp:nAt a x=p)(hq:nAt b y=q):
  zAR ds a b (k+1) x y st=if min (zF ds p) (zF ds q)=ds.length∨4000<st.all.length then((zW st.all ⟨p.leaf&&q.leaf,0,[],[]⟩).1,⟨(zW st.all ⟨p.leaf&&q.leaf,0,[],[]⟩).2,st.done⟩)else zUl ds a b k x y st p q:=by
 subst hp hq;unfold zAR;rw[hkn];rfl
theorem zQy{va vb vd:Value}(x y:Int)(h:zEV c va vb vd a b ds Zn B0 w st F Z){r:Int}(hkn:kvI st.done (x,y)=some r):
  Calls Tryz.prog 43 (c.args x y) w (zHS c va vb vd w F Z (r,st)):=by
 have hl:=Tryz.lookP h.mem.done x y;simp only[hkn,Option.isSome_some]at hl;have d0:=h.mem.dv.cell;have d0l:=h.mem.dv.lt;have HM:=hid h.mem;clear h hkn;unfold AV.args;go_enter Tryz.func43,Tryz.ntmps43
 go_wp2;go_ret;exact⟨rfl,⟨F,Z,HM.out,λb hb=>Or.inl hb,λb hb=>Or.inl hb⟩,zA.refl _ _⟩
theorem zEV.kid{va vb vd:Value}{w3 wr w7:World}{st':ASt}{kids:List Int}{vk:Value}{F' Z':zD}(h:zEV c va vb vd a b ds Zn B0 w st F Z)(hk3:zA (c.kept F) w w3)(hL:AnL c va vb vd w3 wr F Z st' kids vk F' Z')
  (hb7:Below wr.heap.size wr w7)(hw:zFa st')(hn:inn st'.all≤4000+ds.length):zEV c va vb vd a b ds Zn B0 w7 st' F' Z':=by
 have s3:=hk3.size;have s6:=hL.kept.size;have s7:=hb7.size;have hk7:zA (c.kept F) w w7:=hk3.trans (hL.kept.trans (.of_below hb7))
 refine⟨hL.mem.below hb7,h.na.keep (hk7.mono λb _ hb=>(h.off b hb).1),h.nb.keep (hk7.mono λb _ hb=>(h.off b hb).1),h.fs.keep (hk7.mono λb _ hb=>(h.off b hb).1),λx hx=>⟨zEq hL.hF (h.off x hx).1 (h.off x hx).2 s3,by have:=(h.off x hx).2;omega⟩,
  h.tab.on (h.belowB hk7),⟨by have:=h.base.1;omega,λb hb=> ?_,h.base.2.2⟩,hw,hn,h.ga,h.gb⟩
 rcases hL.hF b hb with hb|hb
 ·exact h.base.2.1 b hb
 ·have:=h.base.1;omega
def zSJ(c:AV)(va vb vd:Value)(a b:List zB)(ds:List zC)(Zn:zD)(B0 k:Nat):Prop:=
 ∀(x y:Int)(w:World)(st:ASt)(F Z:zD),Rng a x->Rng b y->ds.length-(min (zF ds (nAt a x)) (zF ds (nAt b y))).toNat <k->zEV c va vb vd a b ds Zn B0 w st F Z->
  Calls Tryz.prog 43 (c.args x y) w (zHS c va vb vd w F Z (zAR ds a b k x y st))
theorem zTQ(k:Nat)(IH:zSJ c (.slice AA a.length acap) (.slice AB b.length bcap) (.slice D ds.length dcap) a b ds Zn B0 k)(x y:Int)(hm:ds.length-(min (zF ds (nAt a x)) (zF ds (nAt b y))).toNat <k+1)(h:zEV c (.slice AA a.length acap) (.slice AB b.length bcap) (.slice D ds.length dcap) a b ds Zn B0 w st F Z)(hx:Rng a x)(hy:Rng b y)(hkn:kvI st.done (x,y)=none):
  Calls Tryz.prog 43 (c.args x y) w (zHS c (.slice AA a.length acap) (.slice AB b.length bcap) (.slice D ds.length dcap) w F Z (zAR ds a b (k+1) x y st)):=by
 have HH:=hid h;have HIH:=hid IH;have zTu:=hid hm;have hl:=Tryz.lookP h.mem.done x y;simp only[hkn,Option.isSome_none]at hl;clear IH hm;have HKN:=hid hkn;obtain⟨AA',acap',hea,-,-,hata⟩:=h.na.open_;injection hea with e1 e2 e3;subst e1 e3;clear e2;obtain⟨AB',bcap',heb,-,-,hatb⟩:=h.nb.open_;injection heb with e1 e2 e3;subst e1 e3;clear e2;obtain⟨xi,rfl⟩:=Int.eq_ofNat_of_zero_le hx.1;obtain⟨yi,rfl⟩:=Int.eq_ofNat_of_zero_le hy.1;have hxl:xi<a.length:=by have:=hx.2;omega
 have hyl:yi<b.length:=by have:=hy.2;omega
 obtain⟨ab,aoff,acu,aki,rfl,haz,hab,a0,a1,a2,a3,haf,hacu,haki⟩:=hata xi hxl;obtain⟨bb,boff,bcu,bki,rfl,hbz,hbb,b0,b1,b2,b3,hbf,hbcu,hbki⟩:=hatb yi hyl;have d0:=h.mem.dv.cell;have d0l:=h.mem.dv.lt;have v0:=h.mem.av.cell;have v0l:=h.mem.av.lt;have u0:=h.mem.bv.cell;have u0l:=h.mem.bv.lt;have hxl1:(xi:Int)<(a.length:Int):=by omega
 have hyl1:(yi:Int)<(b.length:Int):=by omega
 have hnx:nAt a (xi:Int)=a[xi]:=zAI hxl;have hny:nAt b (yi:Int)=b[yi]:=zAI hyl;have HP:=hid (show zd Zn w [.bool a[xi].leaf,.int .i64 a[xi].fact,acu,aki] a[xi] from⟨_,_,rfl,haf,hacu,haki⟩);have HQ:=hid (show zd Zn w [.bool b[yi].leaf,.int .i64 b[yi].fact,bcu,bki] b[yi] from⟨_,_,rfl,hbf,hbcu,hbki⟩);have HX:=hid (And.intro hx (And.intro hy (And.intro hnx hny)));have HU:=hid (zU0 (ds:=ds) (a:=a) (b:=b) (st:=st) k xi yi HKN.out hnx hny);have hrp:=zC7 h.ga.good hx;have hrq:=zC7 h.gb.good hy;rw[hnx]at hrp;rw[hny]at hrq;rw[hnx,hny]at zTu;generalize a[xi]=p at*;generalize b[yi]=q at*;obtain⟨PU,pucap,rfl,-⟩:=hacu.form;obtain⟨PK,pkcap,rfl,-⟩:=haki.form;obtain⟨QU,qucap,rfl,-⟩:=hbcu.form;obtain⟨QK,qkcap,rfl,-⟩:=hbki.form;clear h hkn hata hatb haf hacu haki hbf hbcu hbki hx hy hnx hny;unfold AV.args;go_enter Tryz.func43,Tryz.ntmps43
 go_upto_region 4 with(fail)
 go_cut[13,14] from 33 to 42 (λvp vq wx=>∃bp bq,vp= .pointer (some ⟨bp,0,none⟩)∧vq= .pointer (some ⟨bq,0,none⟩)∧Blk wx bp 51 #[.bool p.leaf,.int .i64 p.fact,.slice PU p.cuts.length pucap,.slice PK p.kids.length pkcap]∧Blk wx bq 51 #[.bool q.leaf,.int .i64 q.fact,.slice QU q.cuts.length qucap,.slice QK q.kids.length qkcap]∧w.heap.size≤bp∧w.heap.size≤bq∧Below w.heap.size w wx)
 case first=>
  refine zAO 13 (λW=>Below w.heap.size w W) (by kernel_rfl) ?_;have hS:(λW=>Below w.heap.size w W) w.drew:=(Below.refl _ _).drew
  have HC:=hid (λ(W:World)(hW:Below w.heap.size w W)=>(show W.cell? ⟨c.Av,0,none⟩=some (.slice (some ⟨ab,aoff,none⟩) a.length acap)∧W.cell? ⟨c.Bv,0,none⟩=some (.slice (some ⟨bb,boff,none⟩) b.length bcap)∧W.cell? ⟨ab,aoff+xi*4,none⟩=some (.bool p.leaf)∧W.cell? ⟨ab,aoff+xi*4+1,none⟩=some (.int .i64 p.fact)∧W.cell? ⟨ab,aoff+xi*4+2,none⟩=some (.slice PU p.cuts.length pucap)∧W.cell? ⟨ab,aoff+xi*4+3,none⟩=some (.slice PK p.kids.length pkcap)∧
    W.cell? ⟨bb,boff+yi*4,none⟩=some (.bool q.leaf)∧W.cell? ⟨bb,boff+yi*4+1,none⟩=some (.int .i64 q.fact)∧W.cell? ⟨bb,boff+yi*4+2,none⟩=some (.slice QU q.cuts.length qucap)∧W.cell? ⟨bb,boff+yi*4+3,none⟩=some (.slice QK q.kids.length qkcap) from
   ⟨brd hW v0 v0l,brd hW u0 u0l,brd hW a0 hab,brd hW a1 hab,brd hW a2 hab,brd hW a3 hab,
    brd hW b0 hbb,brd hW b1 hbb,brd hW b2 hbb,brd hW b3 hbb⟩))
  clear a0 a1 a2 a3 b0 b1 b2 b3 v0 u0
  (refine tkZ 0 ?_ hS ?_ ?_;rotate_left;intro w;go_simp;(try with_reducible rfl);simp only[nr])
  (refine tkS 1 ?_ hS ?_ ?_;rotate_left;intro w hkw;obtain⟨h0,h1,h2,h3,h4,h5,h6,h7,h8,h9⟩:=HC.out _ hkw;clear hkw;go_simp;(try with_reducible rfl);simp only[nr])
  (refine tkZ 2 ?_ hS ?_ ?_;rotate_left;intro w;go_simp;(try with_reducible rfl);simp only[nr])
  (refine tkZ 3 ?_ hS ?_ ?_;rotate_left;intro w;go_simp;(try with_reducible rfl);simp only[nr])
  (refine tkS 4 ?_ hS ?_ ?_;rotate_left;intro w hkw;obtain⟨h0,h1,h2,h3,h4,h5,h6,h7,h8,h9⟩:=HC.out _ hkw;clear hkw;go_simp;(try with_reducible rfl);simp only[nr])
  (refine tkZ 5 ?_ hS ?_ ?_;rotate_left;intro w;go_simp;(try with_reducible rfl);simp only[nr])
  (refine tkS 6 ?_ hS ?_ ?_;rotate_left;intro w hkw;obtain⟨h0,h1,h2,h3,h4,h5,h6,h7,h8,h9⟩:=HC.out _ hkw;clear hkw;go_simp;(try with_reducible rfl);simp only[nr])
  (refine tkZ 7 ?_ hS ?_ ?_;rotate_left;intro w;go_simp;(try with_reducible rfl);simp only[nr])
  (refine tkZ 8 ?_ hS ?_ ?_;rotate_left;intro w;go_simp;(try with_reducible rfl);simp only[nr])
  (refine tkS 9 ?_ hS ?_ ?_;rotate_left;intro w hkw;obtain⟨h0,h1,h2,h3,h4,h5,h6,h7,h8,h9⟩:=HC.out _ hkw;clear hkw;go_simp;(try with_reducible rfl);simp only[nr])
  clear HC;have hS:Below w.heap.size w w.drew:=hS;generalize w.drew=x0 at*;refine wS2 10 11 (λK hK=> ?_) (λK hK=> ?_)
  ·(go_wp2_with fail);refine hK _ _ (Or.inr (hS.alloc hS.size _)) ?_;clear hK K
   (try simp only[nr])
   refine wS1 11 (λK hK=> ?_);(go_wp2_with fail);refine hK _ _ (Or.inr ((hS.alloc hS.size _).alloc (by have:=hS.size;simp;omega) _)) ?_;clear hK K
   (try simp only[nr])
   have hBp:=(Blk.new x0 51 #[.bool false,.int .i64 0,.slice none 0 0,.slice none 0 0]).alloc (.cells #[.bool false,.int .i64 0,.slice none 0 0,.slice none 0 0] 51);have hBq:=Blk.new' (x0.alloc (.cells #[.bool false,.int .i64 0,.slice none 0 0,.slice none 0 0] 51)) 51 #[.bool false,.int .i64 0,.slice none 0 0,.slice none 0 0] (n:=x0.heap.size+1) (by simp);have hS2:Below w.heap.size w ((x0.alloc (.cells #[.bool false,.int .i64 0,.slice none 0 0,.slice none 0 0] 51)).alloc (.cells #[.bool false,.int .i64 0,.slice none 0 0,.slice none 0 0] 51)):=(hS.alloc hS.size _).alloc (by have:=hS.size;simp;omega) _;have hgep:w.heap.size≤x0.heap.size:=hS.size;(have hgeq:w.heap.size≤x0.heap.size+1:=by have:=hS.size;omega);(have hne:x0.heap.size≠x0.heap.size+1:=by omega);generalize (x0.alloc (.cells #[.bool false,.int .i64 0,.slice none 0 0,.slice none 0 0] 51)).alloc (.cells #[.bool false,.int .i64 0,.slice none 0 0,.slice none 0 0] 51)=x2 at*;generalize x0.heap.size+1=nq at*;generalize x0.heap.size=np at*;refine wS1 12 (λK hK=> ?_);refine zDy 51 (.tmp 13) (.tmp 37) rfl rfl rfl hBp rfl (by kernel_rfl) (by simp[Value.oneCell']) ?_;intro w4 hb4 hk4 hs4;have hBq4:Blk w4 nq 51 #[.bool false,.int .i64 0,.slice none 0 0,.slice none 0 0]:=hBq.keep hk4 hne.symm;have hw4:Below w.heap.size w w4:=zA1 hS2 hk4 hgep hS2.size;refine hK _ _ (Or.inr hw4) ?_;clear hK K
   (try simp only[nr])
   refine wS1 13 (λK hK=> ?_);refine zDy 51 (.tmp 14) (.tmp 42) rfl rfl rfl hBq4 rfl (by kernel_rfl) (by simp[Value.oneCell']) ?_;intro w5 hb5 hk5 hs5;have hw5:Below w.heap.size w w5:=zA1 hw4 hk5 hgeq hw4.size;refine hK _ _ (Or.inl rfl) ?_;clear hK K
   (try simp only[nr])
   refine wSd ?_ _;(go_wp2_with fail);go_meet;exact⟨np,nq,rfl,rfl,hb4.keep hk5 hne,hb5,hgep,hgeq,hw5⟩
  ·(go_wp2_with fail);refine hK _ _ (Or.inr (hS.alloc hS.size _)) ?_;clear hK K
   (try simp only[nr])
   refine wS1 10 (λK hK=> ?_);(go_wp2_with fail);refine hK _ _ (Or.inr ((hS.alloc hS.size _).alloc (by have:=hS.size;simp;omega) _)) ?_;clear hK K
   (try simp only[nr])
   have hBq:=(Blk.new x0 51 #[.bool false,.int .i64 0,.slice none 0 0,.slice none 0 0]).alloc (.cells #[.bool false,.int .i64 0,.slice none 0 0,.slice none 0 0] 51);have hBp:=Blk.new' (x0.alloc (.cells #[.bool false,.int .i64 0,.slice none 0 0,.slice none 0 0] 51)) 51 #[.bool false,.int .i64 0,.slice none 0 0,.slice none 0 0] (n:=x0.heap.size+1) (by simp);have hS2:Below w.heap.size w ((x0.alloc (.cells #[.bool false,.int .i64 0,.slice none 0 0,.slice none 0 0] 51)).alloc (.cells #[.bool false,.int .i64 0,.slice none 0 0,.slice none 0 0] 51)):=(hS.alloc hS.size _).alloc (by have:=hS.size;simp;omega) _;have hgeq:w.heap.size≤x0.heap.size:=hS.size;(have hgep:w.heap.size≤x0.heap.size+1:=by have:=hS.size;omega);(have hne:x0.heap.size+1≠x0.heap.size:=by omega);generalize (x0.alloc (.cells #[.bool false,.int .i64 0,.slice none 0 0,.slice none 0 0] 51)).alloc (.cells #[.bool false,.int .i64 0,.slice none 0 0,.slice none 0 0] 51)=x2 at*;generalize x0.heap.size+1=np at*;generalize x0.heap.size=nq at*;refine wS1 12 (λK hK=> ?_);refine zDy 51 (.tmp 13) (.tmp 37) rfl rfl rfl hBp rfl (by kernel_rfl) (by simp[Value.oneCell']) ?_;intro w4 hb4 hk4 hs4;have hBq4:Blk w4 nq 51 #[.bool false,.int .i64 0,.slice none 0 0,.slice none 0 0]:=hBq.keep hk4 hne.symm;have hw4:Below w.heap.size w w4:=zA1 hS2 hk4 hgep hS2.size;refine hK _ _ (Or.inr hw4) ?_;clear hK K
   (try simp only[nr])
   refine wS1 13 (λK hK=> ?_);refine zDy 51 (.tmp 14) (.tmp 42) rfl rfl rfl hBq4 rfl (by kernel_rfl) (by simp[Value.oneCell']) ?_;intro w5 hb5 hk5 hs5;have hw5:Below w.heap.size w w5:=zA1 hw4 hk5 hgeq hw4.size;refine hK _ _ (Or.inl rfl) ?_;clear hK K
   (try simp only[nr])
   refine wSd ?_ _;(go_wp2_with fail);go_meet;exact⟨np,nq,rfl,rfl,hb4.keep hk5 hne,hb5,hgep,hgeq,hw5⟩
 case rest=>
  obtain⟨np,nq,rfl,rfl,hbp,hbq,hgep,hgeq,hb4⟩:=hcut;rename World=>w4
  obtain⟨mn,hmn⟩:∃mn:Int,min (zF ds p) (zF ds q)=mn:=⟨_,rfl⟩;have hmn0:0≤mn∧mn≤ds.length:=by omega
  rw[hmn]at HU;have f0:=brd hb4 HH.out.mem.fv.cell HH.out.mem.fv.lt;have f0l:=lt_of_cell f0;have HA1:=hid (λ(W:World)(hW:Below w4.heap.size w4 W)=>zLi Zn Zn p [.bool p.leaf,.int .i64 p.fact,.slice PU p.cuts.length pucap,.slice PK p.kids.length pkcap] (.slice D ds.length dcap) ds W (HP.out.keep (.of_below (hb4.trans (hW.mono hb4.size)))) (HH.out.fs.keep (.of_below (hb4.trans (hW.mono hb4.size)))));have HA2:=hid (λ(W:World)(hW:Below w4.heap.size w4 W)=>zLi Zn Zn q [.bool q.leaf,.int .i64 q.fact,.slice QU q.cuts.length qucap,.slice QK q.kids.length qkcap] (.slice D ds.length dcap) ds W (HQ.out.keep (.of_below (hb4.trans (hW.mono hb4.size)))) (HH.out.fs.keep (.of_below (hb4.trans (hW.mono hb4.size)))))
  have zBT:=hid (λ(W:World)(hW:Below w4.heap.size w4 W)=>(show W.cell? ⟨np,0,none⟩=some (.bool p.leaf)∧W.cell? ⟨np,1,none⟩=some (.int .i64 p.fact)∧W.cell? ⟨np,2,none⟩=some (.slice PU p.cuts.length pucap)∧W.cell? ⟨np,3,none⟩=some (.slice PK p.kids.length pkcap)∧
    W.cell? ⟨nq,0,none⟩=some (.bool q.leaf)∧W.cell? ⟨nq,1,none⟩=some (.int .i64 q.fact)∧W.cell? ⟨nq,2,none⟩=some (.slice QU q.cuts.length qucap)∧W.cell? ⟨nq,3,none⟩=some (.slice QK q.kids.length qkcap)∧W.cell? ⟨c.Fv,0,none⟩=some (.slice D ds.length dcap) from by
   have h1:=hbp.below hW hbp.lt;have h2:=hbq.below hW hbq.lt
   exact⟨h1.cell 0,h1.cell 1,h1.cell 2,h1.cell 3,h2.cell 0,h2.cell 1,h2.cell 2,h2.cell 3,brd hW f0 f0l⟩))
  have HB4:=hid (And.intro hbp (And.intro hbq (And.intro hgep (And.intro hgeq hb4))));clear hbp hbq hgep hgeq hb4 f0 f0l a0 a1 a2 a3 b0 b1 b2 b3 v0 v0l u0 u0l d0 d0l hl;go_upto_region 5 with(fail)
  go_cut[15] from 43 to 49 (λvi wx=>vi= .int .i64 mn∧Below w4.heap.size w4 wx)
  case first=>
   refine zAO 7 (λW=>Below w4.heap.size w4 W) (by kernel_rfl) ?_;have hS:(λW=>Below w4.heap.size w4 W) w4.drew:=(Below.refl _ _).drew
   (refine tkS 0 ?_ hS ?_ ?_;rotate_left;intro w hkw;obtain⟨h0,h1,h2,h3,h4,h5,h6,h7,h8⟩:=zBT.out _ hkw;clear hkw;go_simp;(try with_reducible rfl);simp only[nr])
   (refine tkS 1 ?_ hS ?_ ?_;rotate_left;intro w hkw;obtain⟨h0,h1,h2,h3,h4,h5,h6,h7,h8⟩:=zBT.out _ hkw;clear hkw;go_simp;(try with_reducible rfl);simp only[nr])
   (refine tkS 3 ?_ hS ?_ ?_;rotate_left;intro w hkw;obtain⟨h0,h1,h2,h3,h4,h5,h6,h7,h8⟩:=zBT.out _ hkw;clear hkw;go_simp;(try with_reducible rfl);simp only[nr])
   (refine tkS 4 ?_ hS ?_ ?_;rotate_left;intro w hkw;obtain⟨h0,h1,h2,h3,h4,h5,h6,h7,h8⟩:=zBT.out _ hkw;clear hkw;go_simp;(try with_reducible rfl);simp only[nr])
   have hS:Below w4.heap.size w4 w4.drew:=hS;generalize w4.drew=x0 at*;refine wS1 2 (λK hK=> ?_);(go_wp2_with fail);refine(HA1.out _ hS).mono ?_;rintro e x1 ⟨rfl,hb⟩;have hS1:Below w4.heap.size w4 x1:=hS.trans (hb.mono hS.size);refine hK _ _ (Or.inr hS1) ?_;clear hK K
   (try simp only[nr])
   refine wS1 5 (λK hK=> ?_);(go_wp2_with fail);refine(HA2.out _ hS1).mono ?_;rintro e x2 ⟨rfl,hb2⟩;have hS2:Below w4.heap.size w4 x2:=hS1.trans (hb2.mono hS1.size);refine hK _ _ (Or.inr hS2) ?_;clear hK K
   (try simp only[nr])
   refine wS1 6 (λK hK=> ?_);(go_wp2_with fail);refine hK _ _ (Or.inr hS2) ?_;clear hK K
   (try simp only[nr])
   refine wS1 7 (λK hK=> ?_);(go_wp2_with fail);refine hK _ _ (Or.inl rfl) ?_;clear hK K
   (try simp only[nr])
   refine wSd ?_ _;(go_wp2_with fail);go_meet;exact⟨rfl,hS2⟩
  case rest=>
   obtain⟨rfl,hb5⟩:=hcut;(rename World=>w5);have hb45:=HB4.out.2.2.2.2.trans (hb5.mono HB4.out.2.2.2.2.size);have hm5:=HH.out.mem.below hb45;have HM5:=hid hm5;obtain⟨p0,p1,p2,p3,q0,q1,q2,q3,f0⟩:=zBT.out _ hb5;have p0l:=lt_of_cell p0;have q0l:=lt_of_cell q0;have f0l:=lt_of_cell f0;have m0:=hm5.mv.cell;have m0l:=hm5.mv.lt;obtain⟨AL,alcap,l0,l0l⟩:=hm5.mkr.all_cell;have HB5:=hid (And.intro hb5 hb45);have HN:=hid (λ(l:Bool)=>HH.out.node l hb45);have HE:=hid (λ(l:Bool)(e:Ending)(w':World) hp=> @zUY c (.slice (some ⟨ab,aoff,none⟩) a.length acap) (.slice (some ⟨bb,boff,none⟩) b.length bcap) (.slice D ds.length dcap) w w' st F Z w5 l e HH.out.mem hb45 hp);clear hm5 hb5 hb45 HA1 HA2;by_cases hend:mn=ds.length∨4000<st.all.length
   ·skip
    have zDO:=hid (HU.out.trans (if_pos hend));clear HU;by_cases h1:mn=ds.length
    ·subst h1;clear hend hmn0
     cases hpl:p.leaf with
     |true=>
      rw[hpl]at p0;rw[hpl,Bool.true_and]at zDO;clear hpl;(go_wp2_with fail);refine(HN.out q.leaf).mono ?_;intro e w6 hp;have HF:=hid (HE.out _ _ _ hp);obtain⟨rfl,-⟩:=hp;go_wp2;go_ret;rw[zDO.out];exact HF.out
     |false=>
      rw[hpl]at p0;rw[hpl,Bool.false_and]at zDO;clear hpl;(go_wp2_with fail);refine(HN.out false).mono ?_;intro e w6 hp;have HF:=hid (HE.out _ _ _ hp);obtain⟨rfl,-⟩:=hp;go_wp2;go_ret;rw[zDO.out];exact HF.out
    ·have h2:4000<st.all.length:=hend.resolve_left h1;(have e1:(mn==(ds.length:Int))=false:=by simp[h1]);(have e2:decide ((4000:Int)<(st.all.length:Int))=true:=by simp;omega);(have e3:decide (4000<st.all.length)=true:=by simp;omega);clear hend h1 h2
     cases hpl:p.leaf with
     |true=>
      rw[hpl]at p0;rw[hpl,Bool.true_and]at zDO;clear hpl;(go_wp2_with fail);refine(HN.out q.leaf).mono ?_;intro e w6 hp;have HF:=hid (HE.out _ _ _ hp);obtain⟨rfl,-⟩:=hp;go_wp2;go_ret;rw[zDO.out];exact HF.out
     |false=>
      rw[hpl]at p0;rw[hpl,Bool.false_and]at zDO;clear hpl;(go_wp2_with fail);refine(HN.out false).mono ?_;intro e w6 hp;have HF:=hid (HE.out _ _ _ hp);obtain⟨rfl,-⟩:=hp;go_wp2;go_ret;rw[zDO.out];exact HF.out
   ·have zDO:=hid (HU.out.trans (if_neg hend));(have hml:mn<ds.length:=by omega);(have hal:st.all.length≤4000:=by omega);obtain⟨i,rfl⟩:=Int.eq_ofNat_of_zero_le hmn0.1;(have hil:i<ds.length:=by omega);(have e1:((i:Int)==(ds.length:Int))=false:=by simp;omega);(have e2:decide ((4000:Int)<(st.all.length:Int))=false:=by simp;omega);(have e3:decide (4000<st.all.length)=false:=by simp;omega);(have hi1:((i:Nat):Int)<(ds.length:Int):=by omega);obtain⟨D',dcap',he,-,-,hatd⟩:=HH.out.fs.open_;injection he with he1 he2 he3;subst he1 he3;clear he2;obtain⟨fb,foff,rfl,hfz,hfbl,x0,x1,x2,x3,hfit⟩:=hatd i hil;replace x2:=brd HB5.out.2 x2 hfbl;have x2l:=lt_of_cell x2;have HIL:=hid hil;have HAL:=hid hal;have HMN:=hid hmn;have hfx:zAv ds[i]=true:=zEO HH.out.ga.dom (List.getElem_mem hil);(have hxat:fAt ds (i:Int)=ds[i]:=by show ds.getD i zAA=ds[i];rw[List.getD_eq_getElem?_getD,List.getElem?_eq_getElem hil];rfl);have HX5:=hid (And.intro hfit (And.intro hfx hxat));generalize ds[i]=fx at*;have hbl:=zDJ (base:=w5.heap.size) ((Blk.new w5 3 #[.int .i64 fx.lo]).alloc (.cells #[.bool p.leaf,.int .i64 p.fact,.slice PU p.cuts.length pucap,.slice PK p.kids.length pkcap,.bool q.leaf,.int .i64 q.fact,.slice QU q.cuts.length qucap,.slice QK q.kids.length qkcap] 51)) (Nat.le_refl _) (by simp[maxLen]);have hbr:=Blk.new' (w5.alloc (.cells #[.int .i64 fx.lo] 3)) 51 #[.bool p.leaf,.int .i64 p.fact,.slice PU p.cuts.length pucap,.slice PK p.kids.length pkcap,.bool q.leaf,.int .i64 q.fact,.slice QU q.cuts.length qucap,.slice QK q.kids.length qkcap] (n:=w5.heap.size+1) (by simp);have hb6:=zAy w5 (.cells #[.int .i64 fx.lo] 3) (.cells #[.bool p.leaf,.int .i64 p.fact,.slice PU p.cuts.length pucap,.slice PK p.kids.length pkcap,.bool q.leaf,.int .i64 q.fact,.slice QU q.cuts.length qucap,.slice QK q.kids.length qkcap] 51);have HB6:=hid (And.intro hbl (And.intro hbr hb6));clear hend hmn0 hml hal hil hatd hfz x0 x1 x3 hfit hfx hxat hbl hbr hb6 HU HN HE hrp hrq hmn;go_wp2;clear l0 l0l m0 m0l p0 p1 p2 p3 q0 q1 q2 q3 p0l q0l x2 x2l e1 e2 e3;have hs6:=HB6.out.2.2.size;generalize (w5.alloc (.cells #[.int .i64 fx.lo] 3)).alloc (.cells #[.bool p.leaf,.int .i64 p.fact,.slice PU p.cuts.length pucap,.slice PK p.kids.length pkcap,.bool q.leaf,.int .i64 q.fact,.slice QU q.cuts.length qucap,.slice QK q.kids.length qkcap] 51)=w6 at*;generalize hgR:w5.heap.size+1=gR at*;(have hgRl:w5.heap.size<gR:=by omega);clear hgR;have HCP:=hid (λh=>zPm HH.out.ga.good HX.out.1 HX.out.2.2.1 HIL.out HX5.out.2.2 h);have HCQ:=hid (λh=>zPm HH.out.gb.good HX.out.2.1 HX.out.2.2.2 HIL.out HX5.out.2.2 h);have HBD:=hid (show fx.lo≤fx.hi∧fx.hi-fx.lo≤1000000 from by have:=zC9 HX5.out.2.1;omega);have zVV:=hid (zLA HCP.out HBD.out);have zVW:=hid (zLA HCQ.out HBD.out);go_loopw[16,84] (λvv ix wr=>∃(j:Nat)(vl:Value),j≤2∧ix= .int .i64 j∧vl=vv∧wr.ownsRow w5.heap.size 3 1 vl (zEW fx.lo (zAP ds i p) (zAP ds i q) j).length ((zEW fx.lo (zAP ds i p) (zAP ds i q) j).map (.int .i64))∧Blk wr gR 51 #[.bool p.leaf,.int .i64 p.fact,.slice PU p.cuts.length pucap,.slice PK p.kids.length pkcap,.bool q.leaf,.int .i64 q.fact,.slice QU q.cuts.length qucap,.slice QK q.kids.length qkcap]∧vl.ownBlock≠some gR∧Below w5.heap.size w5 wr) (λ_ ix _=>2-(intOf ix).toNat);case atStart=>exact⟨0,_,by omega,rfl,rfl,HB6.out.1,HB6.out.2.1,by simp[Value.ownBlock];omega,HB6.out.2.2⟩
    case round=>
     obtain⟨j,vl,hj,rfl,rfl,hown,hR,hno,hbl⟩:=hrel;(rename World=>wr);by_cases hlt:j<2
     ·skip
      obtain⟨n,NU,nucap,NK,nkcap,r0,r1,r2,r3,hn,hcn,hml⟩:∃(n:zB)(NU:Option Addr)(nucap:Nat)(NK:Option Addr)(nkcap:Nat),wr.cell? ⟨gR,j*4,none⟩=some (.bool n.leaf)∧wr.cell? ⟨gR,j*4+1,none⟩=some (.int .i64 n.fact)∧wr.cell? ⟨gR,j*4+2,none⟩=some (.slice NU n.cuts.length nucap)∧wr.cell? ⟨gR,j*4+3,none⟩=some (.slice NK n.kids.length nkcap)∧
        zd Zn w [.bool n.leaf,.int .i64 n.fact,.slice NU n.cuts.length nucap,.slice NK n.kids.length nkcap] n∧(zF ds n=i->n.cuts≠[]∧zk fx.lo fx.hi n.cuts)∧zEW fx.lo (zAP ds i p) (zAP ds i q) (j+1)=zEW fx.lo (zAP ds i p) (zAP ds i q) j++zAP ds i n:=by
       match j,hlt with
       |0,_=>exact⟨p,_,_,_,_,hR.cell 0,hR.cell 1,hR.cell 2,hR.cell 3,HP.out,HCP.out,by simp[zEW]⟩
       |1,_=>exact⟨q,_,_,_,_,hR.cell 4,hR.cell 5,hR.cell 6,hR.cell 7,HQ.out,HCQ.out,by simp[zEW]⟩
      have hbw:Below w.heap.size w wr:=HB5.out.2.trans (hbl.mono HB5.out.2.size);have rl:=hR.lt;have f0r:wr.cell? ⟨c.Fv,0,none⟩=some (.slice (some ⟨fb,foff,none⟩) ds.length dcap):=brd hbl f0 f0l;have f0rl:c.Fv<wr.heap.size:=lt_of_cell f0r;have HAX:=hid (λ(W:World)(hW:Below w.heap.size w W)=>zLi Zn Zn n [.bool n.leaf,.int .i64 n.fact,.slice NU n.cuts.length nucap,.slice NK n.kids.length nkcap] (.slice (some ⟨fb,foff,none⟩) ds.length dcap) ds W (hn.keep (.of_below hW)) (HH.out.fs.keep (.of_below hW)));have HR:=hid (And.intro hR (And.intro hno (And.intro hbl hbw)));have zLu:=hid hown;have zVX:=hid (zOQ (lo:=fx.lo) j zVV.out zVW.out);have HCN:=hid hcn;have HML:=hid hml;(have hjl:(j:Int)<2:=by omega);have HJ:=hid hj;clear hR hno hbl hbw hown hcn hml hj;by_cases hask:zF ds n=i
      ·have HC2:=hid (HCN.out hask);(have e5:(zF ds n==(i:Int))=true:=by simp[hask]);(have hcut:zAP ds i n=n.cuts:=by unfold zAP;rw[if_pos hask]);rw[hcut]at HML;obtain⟨vcu,vki,hee,-,hcu,-⟩:=hn;simp only[List.cons.injEq,and_true]at hee;obtain⟨-,-,hee,-⟩:=hee;subst hee;obtain⟨cb,coff,ccap,hee,hcz,hcbl,-,hcc⟩:=hcu.open_ HC2.out.1;injection hee with hee hee2 hee3;subst hee hee3;clear hee2
       have HCC:=hid (λ(W:World)(hW:Below w.heap.size w W) j u(hu:(n.cuts.map (Value.int .i64))[j]? =some u)=>(show W.cell? ⟨cb,coff+j,none⟩=some u from by
        have hj:j<n.cuts.length:=by
         rcases Nat.lt_or_ge j n.cuts.length with h|h
         ·exact h
         ·rw[List.getElem?_eq_none (by simpa using h)]at hu;cases hu
        rw[(hW.cell (p:=⟨cb,coff+j,none⟩) hcbl),hcc j hj,<-hu]
        simp[List.getD_eq_getElem?_getD,hj]))
       have zTy:=hid (zHd HC2.out.2 HBD.out.1);clear hcu hcc hcut hask hcz hcbl;(go_wp2_with fail);have hw7:Below w.heap.size w (wr.alloc (.cells #[.bool n.leaf,.int .i64 n.fact,.slice (some ⟨cb,coff,none⟩) n.cuts.length nucap,.slice NK n.kids.length nkcap] 51)):=HR.out.2.2.2.alloc HR.out.2.2.2.size _;refine(HAX.out _ hw7).mono ?_;rintro e w7 ⟨rfl,hb7⟩;have hbx:=(Blk.new wr 51 #[.bool n.leaf,.int .i64 n.fact,.slice (some ⟨cb,coff,none⟩) n.cuts.length nucap,.slice NK n.kids.length nkcap]).below hb7 (by simp);have b2:=hbx.at2;have b2l:wr.heap.size<w7.heap.size:=hbx.lt;have hr7:Below wr.heap.size wr w7:=zy (zE wr _) hb7 (by simp);have hw7':=HR.out.2.2.2.trans (hr7.mono HR.out.2.2.2.size);have hown7:=zl zLu.out (zA.of_below (Z:=λ_=>True) hr7) (λ_ _=>trivial);have HW7:=hid (And.intro hr7 (And.intro hw7' hown7));clear r0 r1 r2 r3 rl f0r f0rl hb7 hbx hw7 hr7 hw7' hown7 HAX;go_wp2_with(at_builtin;refine zf rfl (.tmp 93) (.tmp 95) _ rfl Tryz.underlying31 Tryz.eInt rfl HW7.out.2.2 rfl (news:=n.cuts.map (Value.int .i64)) (by simp) (HCC.out _ HW7.out.2.1) (by intro u hu;obtain⟨z,-,rfl⟩:=List.mem_map.1 hu;rfl) (by have h1:=zTy.out;have h2:=zVX.out;have h3:=HBD.out;unfold maxLen;omega) (by have h1:=zTy.out;have h2:=zVX.out;have h3:=HBD.out;omega) (by have h1:=HW7.out.1.size;have h2:=HR.out.2.2.1.size;omega) ?_;intro v8 w8 ho8 hg8 hat8);have hk8:zA (λb=>vl.ownBlock≠some b) w7 w8:=(zA.refl _ _).grown hg8 (λk hk _ hz=>hz hk);have hR8:=(HR.out.1.below HW7.out.1 HR.out.1.lt).keep hk8 HR.out.2.1;have hbl7:Below w5.heap.size w5 w7:=HR.out.2.2.1.trans (HW7.out.1.mono HR.out.2.2.1.size);have hbl8:Below w5.heap.size w5 w8:=zx hbl7 HW7.out.2.2 hg8 hbl7.size (Nat.le_refl _)
       have hno8:v8.ownBlock≠some gR:=λe=>by
        rcases hat8 with h|h
        ·exact HR.out.2.1 (h.symm.trans e)
        ·rw[h]at e;injection e with e;have h1:=HW7.out.1.size;have h2:=HR.out.1.lt;omega
       have hown8:w8.ownsRow w5.heap.size 3 1 v8 (zEW fx.lo (zAP ds i p) (zAP ds i q) (j+1)).length ((zEW fx.lo (zAP ds i p) (zAP ds i q) (j+1)).map (.int .i64)):=by
        rw[HML.out,List.length_append,List.map_append];exact ho8
       have H8:=hid (And.intro hown8 (And.intro hR8 (And.intro hno8 hbl8)));clear hk8 hR8 hbl7 hbl8 hno8 hown8 ho8 hg8 hat8 b2 b2l;go_wp2;go_roundw;(case rel=>exact⟨j+1,_,by omega,by go_num,rfl,H8.out.1,H8.out.2.1,H8.out.2.2.1,H8.out.2.2.2⟩);case measure=>simp[intOf];omega
      ·(have e5:(zF ds n==(i:Int))=false:=by simp[hask]);(have hcut:zAP ds i n=[]:=by unfold zAP;rw[if_neg hask]);rw[hcut,List.append_nil]at HML;clear hcut hask hn;(go_wp2_with fail);have hw7:Below w.heap.size w (wr.alloc (.cells #[.bool n.leaf,.int .i64 n.fact,.slice NU n.cuts.length nucap,.slice NK n.kids.length nkcap] 51)):=HR.out.2.2.2.alloc HR.out.2.2.2.size _;refine(HAX.out _ hw7).mono ?_;rintro e w7 ⟨rfl,hb7⟩;have hr7:Below wr.heap.size wr w7:=zy (zE wr _) hb7 (by simp);have hown7:=zl zLu.out (zA.of_below (Z:=λ_=>True) hr7) (λ_ _=>trivial);rw[<-HML.out]at hown7;have H8:=hid (And.intro hown7 (And.intro (HR.out.1.below hr7 HR.out.1.lt) (And.intro HR.out.2.1 (HR.out.2.2.1.trans (hr7.mono HR.out.2.2.1.size)))));clear r0 r1 r2 r3 rl f0r f0rl hb7 hw7 hr7 hown7 HAX;go_wp2;go_roundw;(case rel=>exact⟨j+1,_,by have:=HJ.out;omega,by go_num,rfl,H8.out.1,H8.out.2.1,H8.out.2.2.1,H8.out.2.2.2⟩);case measure=>simp[intOf];omega
     ·have hz:zEW fx.lo (zAP ds i p) (zAP ds i q) j=fx.lo::(zAP ds i p++zAP ds i q):=by unfold zEW;rw[if_pos (by omega),if_pos (by omega)]
      have zLv:=hid (show Lib.compact ((zEW fx.lo (zAP ds i p) (zAP ds i q) j).mergeSort λa b=>decide (a≤b))=zi ds p q from by
       rw[hz,zUZ (hi:=fx.hi) (λv hv=> ?_)]
       ·unfold zi;rw[HMN.out,HX5.out.2.2];rfl
       ·rcases List.mem_append.1 hv with hv|hv
        ·unfold zAP at hv;split at hv
         ·rename_i e;exact zA3 (HCP.out e).2 v hv
         ·simp at hv
        ·unfold zAP at hv;split at hv
         ·rename_i e;exact zA3 (HCQ.out e).2 v hv
         ·simp at hv)
      have hzl:=zOQ (lo:=fx.lo) j zVV.out zVW.out
      have zVY:=hid (show ∃rest,zi ds p q=fx.lo::rest∧zk fx.lo fx.hi rest from by
       refine⟨zD2 (zAP ds i p++zAP ds i q),?_,zE1 λv hv=> ?_⟩
       ·unfold zi;rw[HMN.out,HX5.out.2.2];rfl
       ·rcases List.mem_append.1 hv with hv|hv
        ·unfold zAP at hv;split at hv
         ·rename_i e;exact zA3 (HCP.out e).2 v hv
         ·simp at hv
        ·unfold zAP at hv;split at hv
         ·rename_i e;exact zA3 (HCQ.out e).2 v hv
         ·simp at hv)
      have hpos:∃m,(zEW fx.lo (zAP ds i p) (zAP ds i q) j).length =m+1:=⟨_,rfl⟩;generalize zEW fx.lo (zAP ds i p) (zAP ds i q) j=zs at*;obtain⟨m,hpos⟩:=hpos;have hown':=hown;rw[hpos]at hown';obtain⟨g,c1,hv⟩:=zAZ hown';rw[<-hpos]at hv;subst hv;have hgw:w5.heap.size≤g:=(hown.lt g rfl).1;have HC5:=hid (zNu hown (by omega));have HBL:=hid (And.intro hbl hgw);have HLT:=hid hlt;clear hz hpos hown' hown hR hno hbl hgw hzl hj;(go_wp2_with fail);refine HC5.out.mono ?_;rintro e w1 ⟨rfl,hown2,hk2⟩;have HB1:=hid (And.intro (zA1 HBL.out.1 hk2 HBL.out.2 HBL.out.1.size) HBL.out.2);have HC6:=hid (zJa hown2);clear hown2 hk2 HC5 HBL;(go_wp2_with fail);refine HC6.out.mono ?_;rintro e w3 ⟨ys,hys,rfl,hown3,hk3⟩;have hyz:ys=zi ds p q:=hys.trans zLv.out;have hbl3:=zA1 HB1.out.1 hk3 HB1.out.2 HB1.out.1.size;subst hyz;clear hys hk3 HC6 HB1 zLv hlt
      have hfitS:∀v∈zi ds p q,I64 v:=λv hv=>by
       have hb:=zC9 HX5.out.2.1;obtain⟨rest,he,hasc⟩:=zVY.out;rw[he]at hv;rcases List.mem_cons.1 hv with rfl|hv
       ·constructor<;>omega
       ·have:=zA3 hasc v hv;constructor<;>omega
      have hslen:(zi ds p q).length ≤1000001:=by
       obtain⟨rest,he,hasc⟩:=zVY.out;have h1:=zHd hasc HBD.out.1;have h2:=HBD.out.2;rw[he,List.length_cons];omega
      have hb3:Below w.heap.size w w3:=HB5.out.2.trans (hbl3.mono HB5.out.2.size);have HV6:=hid (zL.of_own hown3 hfitS (by omega)).live;have HG3:=hid (And.intro (HM5.out.below hbl3) hb3);have hs3:=hbl3.size;have zC6:=hid (λb(hb:w.heap.size≤b)=>(show c.kept F b from⟨λhf=>by have:=HH.out.mem.mkr.liveF b hf;omega,by have:=HH.out.mem.lt.2;omega⟩));have hs5:=HB5.out.2.size;clear hown3 hbl3 hb3 hfitS HB6 hs6 f0 f0l;go_wp2;go_loopw[19,104] (λvv ix wr=>∃(kk:Nat)(vk:Value)(F' Z':zD),kk≤(zi ds p q).length ∧ix= .int .i64 kk∧vk=vv∧AnL c (.slice (some ⟨ab,aoff,none⟩) a.length acap) (.slice (some ⟨bb,boff,none⟩) b.length bcap) (.slice (some ⟨fb,foff,none⟩) ds.length dcap) w3 wr F Z (zH (bF ds a b k xi yi i) ((zi ds p q).take kk) st).2 (zH (bF ds a b k xi yi i) ((zi ds p q).take kk) st).1 vk F' Z') (λ_ ix _=>(zi ds p q).length -(intOf ix).toNat);case atStart=>exact⟨0,_,F,Z,Nat.zero_le _,rfl,rfl,AnL.start HG3.out.1⟩
      case round=>
       obtain⟨kk,vk,F',Z',hkk,rfl,rfl,hL⟩:=hrel;(rename World=>wr);have HKW:=hid (show zA (c.kept F) w wr from(zA.of_below HG3.out.2).trans hL.kept);have zLZ:=hid (λv=>zBg HH.out.ga.good (v:=v) HX.out.1 (i:=(i:Int)) (by rw[HX.out.2.2.1,<-HMN.out];exact Int.min_le_left _ _) (by have:=HIL.out;omega));have zL0:=hid (λv=>zBg HH.out.gb.good (v:=v) HX.out.2.1 (i:=(i:Int)) (by rw[HX.out.2.2.2,<-HMN.out];exact Int.min_le_right _ _) (by have:=HIL.out;omega))
       have zOq:=hid (show ∀v,ds.length-(min (zF ds (nAt a (zG a xi i v))) (zF ds (nAt b (zG b yi i v)))).toNat <k from λv=>by
        have h1:=(zLZ.out v).2;have h2:=(zL0.out v).2;have h3:=zTu.out;have h4:=HIL.out;rw[HMN.out]at h3
        omega)
       have zN1:=hid (λl=>zLh (f:=(bF ds a b k xi yi i)) (B:=4000+(ds.length-i)-1) (λv st=>zGF ds a b k _ _ st) (λv st hs=>by
        obtain⟨a1,a2,a3⟩:=zNy HH.out.ga.good HH.out.gb.good k _ _ st (zLZ.out v).1 (zL0.out v).1 (zOq.out v) hs;refine⟨a1,a2,Nat.le_trans a3 ?_⟩;have h1:=(zLZ.out v).2;have h2:=(zL0.out v).2;have h4:=HIL.out
        omega) l st HH.out.wst)
       have hin:inn st.all≤4000:=Nat.le_trans List.countP_le_length HAL.out;have HIN:=hid hin;clear hin;by_cases hlt:kk<(zi ds p q).length
       ·skip
        obtain⟨vb,voff,hve,hvz,-,hvc⟩:=HV6.out.at_ hlt;injection hve with hve;injection hve with hve1 hve2;subst hve1 hve2;have hvc':wr.cell? ⟨g,0+kk,none⟩=some (.int .i64 (zi ds p q)[kk]):=hL.kept.cell (p:=⟨g,0+kk,none⟩) (zC6.out g (by have:=hvz.1;omega)) hvc;rw[Nat.zero_add]at hvc';have hvl:g<wr.heap.size:=lt_of_cell hvc';obtain⟨AK,capk,hvk,-,-,-⟩:=Row.of_own hL.own (by decide);have hown:=hL.own;have hk6:=hL.kept.size;have HL:=hid hL
        have zBT:=hid (λ(W:World)(hW:zA (λb=>c.kept F' b∧vk.ownBlock≠some b) wr W)=>(show W.cell? ⟨c.Gv,0,none⟩=some (.func (.func 43) #[] #[.pointer (some ⟨c.Dv,0,none⟩),.pointer (some ⟨c.Av,0,none⟩),.pointer (some ⟨c.Bv,0,none⟩),.pointer (some ⟨c.Fv,0,none⟩),.pointer (some ⟨c.Mv,0,none⟩),.pointer (some ⟨c.Gv,0,none⟩)])∧W.cell? ⟨c.Av,0,none⟩=some (.slice (some ⟨ab,aoff,none⟩) a.length acap)∧W.cell? ⟨c.Bv,0,none⟩=some (.slice (some ⟨bb,boff,none⟩) b.length bcap) from by
         have hvar:∀b,c.var b->(λb=>c.kept F' b∧vk.ownBlock≠some b) b:=λb hb=>⟨hL.mem.var b hb,λe=>(hL.row b e).2.2 hb⟩
         exact⟨(hL.mem.gv.keep hW (hvar _ (Or.inr (Or.inr (Or.inr (Or.inr (Or.inr rfl))))))).cell,(hL.mem.av.keep hW (hvar _ (Or.inr (Or.inl rfl)))).cell,(hL.mem.bv.keep hW (hvar _ (Or.inr (Or.inr (Or.inl rfl))))).cell⟩))
        subst hvk;have hkkk:((zi ds p q).take (kk+1))=(zi ds p q).take kk++[(zi ds p q)[kk]]:=List.take_succ_eq_append_getElem hlt;have HKK:=hid (show zH (bF ds a b k xi yi i) ((zi ds p q).take (kk+1)) st=((zH (bF ds a b k xi yi i) ((zi ds p q).take kk) st).1++[((bF ds a b k xi yi i) (zi ds p q)[kk] (zH (bF ds a b k xi yi i) ((zi ds p q).take kk) st).2).1],((bF ds a b k xi yi i) (zi ds p q)[kk] (zH (bF ds a b k xi yi i) ((zi ds p q).take kk) st).2).2) from by rw[hkkk,zFw]);(have hki:(kk:Int)<((zi ds p q).length :Int):=by omega);(have hkl9:(zH (bF ds a b k xi yi i) ((zi ds p q).take kk) st).1.length =kk:=by rw[zA6,List.length_take];omega);have zFe:=hid hkl9;have HW5:=hid (zN1.out ((zi ds p q).take kk));have HKB:=hid (And.intro hkk hslen);clear hL hvc hkkk hvz hkl9 zN1;generalize (zH (bF ds a b k xi yi i) ((zi ds p q).take kk) st).1=kids at*;generalize (zH (bF ds a b k xi yi i) ((zi ds p q).take kk) st).2=st' at*;generalize (zi ds p q)[kk]=v at*;go_wp2;refine zAO 15 (λW=>zA (λb=>c.kept F' b∧(Value.slice AK kids.length capk).ownBlock ≠some b) wr W) (by kernel_rfl) ?_;have hS:(λW=>zA (λb=>c.kept F' b∧(Value.slice AK kids.length capk).ownBlock ≠some b) wr W) wr.drew:=(zA.refl _ _).drew
        (refine tkZ 0 ?_ hS ?_ ?_;rotate_left;intro w;go_simp;(try with_reducible rfl);simp only[nr])
        (refine tkS 1 ?_ hS ?_ ?_;rotate_left;intro w hkw;obtain⟨h0,h1,h2⟩:=zBT.out _ hkw;go_simp;(try with_reducible rfl);simp only[nr])
        (refine tkS 2 ?_ hS ?_ ?_;rotate_left;intro w hkw;obtain⟨h0,h1,h2⟩:=zBT.out _ hkw;go_simp;(try with_reducible rfl);simp only[nr])
        (refine tkZ 3 ?_ hS ?_ ?_;rotate_left;intro w;go_simp;(try with_reducible rfl);simp only[nr])
        (refine tkZ 4 ?_ hS ?_ ?_;rotate_left;intro w;go_simp;(try with_reducible rfl);simp only[nr])
        (refine tkZ 5 ?_ hS ?_ ?_;rotate_left;intro w;go_simp;(try with_reducible rfl);simp only[nr])
        (refine tkS 7 ?_ hS ?_ ?_;rotate_left;intro w hkw;obtain⟨h0,h1,h2⟩:=zBT.out _ hkw;go_simp;(try with_reducible rfl);simp only[nr])
        (refine tkZ 8 ?_ hS ?_ ?_;rotate_left;intro w;go_simp;(try with_reducible rfl);simp only[nr])
        (refine tkZ 9 ?_ hS ?_ ?_;rotate_left;intro w;go_simp;(try with_reducible rfl);simp only[nr])
        (refine tkZ 10 ?_ hS ?_ ?_;rotate_left;intro w;go_simp;(try with_reducible rfl);simp only[nr])
        refine wS1 6 (λK hK=> ?_);(go_wp2_with fail);refine(zOB Zn (.slice (some ⟨ab,aoff,none⟩) a.length acap) a ds xi i v wr.drew (HH.out.na.keep ((HKW.out.mono λb _ hb=>(HH.out.off b hb).1).drew)) HH.out.ga.good HX.out.1).mono ?_;rintro e x1 ⟨rfl,hb1⟩;have hb1':Below wr.heap.size wr x1:=((Below.refl wr.heap.size wr).drew).trans hb1;refine hK _ _ (Or.inr (.of_below hb1')) ?_;clear hK K hb1 hS
        (try simp only[nr])
        refine wS1 11 (λK hK=> ?_);(go_wp2_with fail);refine(zOB Zn (.slice (some ⟨bb,boff,none⟩) b.length bcap) b ds yi i v x1 (HH.out.nb.keep ((HKW.out.mono λb _ hb=>(HH.out.off b hb).1).trans (.of_below hb1'))) HH.out.gb.good HX.out.2.1).mono ?_;rintro e w7 ⟨rfl,hb2⟩;have hb7:Below wr.heap.size wr w7:=hb1'.trans (hb2.mono hb1'.size);have hS7:(λW=>zA (λb=>c.kept F' b∧(Value.slice AK kids.length capk).ownBlock ≠some b) wr W) w7:= .of_below hb7;have zN:=hid (HIH.out _ _ w7 st' F' Z' (zLZ.out v).1 (zL0.out v).1 (zOq.out v) (HH.out.kid (zA.of_below HG3.out.2) HL.out hb7 HW5.out.1 (by have h1:=HW5.out.2.2;have h2:=HIN.out;have h3:=HIL.out;omega)));have HB7:=hid hb7;refine hK _ _ (Or.inr hS7) ?_;clear hK K hb1' hb2 hb7
        (try simp only[nr])
        refine wS1 12 (λK hK=> ?_);(go_wp2_with fail);refine zN.out.mono ?_;intro e w8 hp8;have hS8:zA (λb=>c.kept F' b∧(Value.slice AK kids.length capk).ownBlock ≠some b) wr w8:=hS7.trans (hp8.2.2.mono λb _ hb=>hb.1);have hown8:w8.ownsRow w3.heap.size 3 1 (.slice AK kids.length capk) kids.length (kids.map (.int .i64)):=zl (zl HL.out.own (zA.of_below (Z:=λ_=>True) HB7.out) (λ_ _=>trivial)) hp8.2.2 (λk hk=>(HL.out.row k hk).1);have hw68:w3.heap.size≤w8.heap.size:=Nat.le_trans hk6 (Nat.le_trans HB7.out.size hp8.2.2.size);have HP8:=hid hp8;obtain rfl:=hp8.1;refine hK _ _ (Or.inr hS8) ?_;clear hK K hp8
        (try simp only[nr])
        have zT6:=hid (show(bF ds a b k xi yi i) v st'=zAR ds a b k (zG a xi i v) (zG b yi i v) st' from rfl);rw[<-zT6.out]at HP8⊢;generalize (bF ds a b k xi yi i) v st'=r at*;refine wS1 13 (λK hK=> ?_);(go_wp2_with fail);refine hK _ _ (Or.inr (hS8.alloc _)) ?_;clear hK K
        (try simp only[nr])
        refine wS1 14 (λK hK=> ?_);refine zAz (.tmp 108) (.tmp 121) _ rfl Tryz.underlying31 Tryz.eInt rfl (hown8.alloc _) rfl (news:=[.int .i64 r.1]) rfl (one_cell (by simp)) (by simp[Value.oneCell']) (by have:=zFe.out;have:=HKB.out;unfold maxLen;omega) (by have:=zFe.out;have:=HKB.out;omega) (by simp;omega) ?_;intro v5 w10 ho10 hg10 hat10;have HST:=hid (HL.out.step HB7.out HP8.out hg10 ho10 hat10);refine hK _ _ (Or.inr ((hS8.alloc _).grown hg10 (λk hk _ hz=>hz.2 hk))) ?_;clear hK K hg10 ho10 hat10
        (try simp only[nr])
        refine wS1 15 (λK hK=> ?_);(go_wp2_with fail);refine hK _ _ (Or.inl rfl) ?_;clear hK K
        (try simp only[nr])
        refine wSd ?_ _;go_wp2;go_roundw
        case rel=>
         obtain⟨F2,Z2,hL2⟩:=HST.out;refine⟨kk+1,_,F2,Z2,by omega,by go_num,rfl,?_⟩;rw[HKK.out];exact hL2
        case measure=>simp[intOf];omega
       ·(obtain rfl:kk=(zi ds p q).length :=by omega);rw[List.take_length]at hL;have hlk:=zA6 (f:=(bF ds a b k xi yi i)) (zi ds p q) st;have hW:=zN1.out (zi ds p q);have hne:(zH (bF ds a b k xi yi i) (zi ds p q) st).1≠[]:=zET (by simp[zi]);have zRH:=hid (show zAR ds a b (k+1) xi yi st=((zb (zH (bF ds a b k xi yi i) (zi ds p q) st).2.all i (zi ds p q) (zH (bF ds a b k xi yi i) (zi ds p q) st).1).1,⟨(zb (zH (bF ds a b k xi yi i) (zi ds p q) st).2.all i (zi ds p q) (zH (bF ds a b k xi yi i) (zi ds p q) st).1).2,zCI (zH (bF ds a b k xi yi i) (zi ds p q) st).2.done ((xi:Int),(yi:Int)) (zb (zH (bF ds a b k xi yi i) (zi ds p q) st).2.all i (zi ds p q) (zH (bF ds a b k xi yi i) (zi ds p q) st).1).1⟩) from zDO.out.trans (by unfold zUl;rw[HMN.out]));clear zN1 zDO zOq zLZ zL0;generalize (zH (bF ds a b k xi yi i) (zi ds p q) st).1=kids at*;generalize (zH (bF ds a b k xi yi i) (zi ds p q) st).2=st' at*
        have hall:st'.all.length≤5000:=by
         have h1:=hW.1.tab.len;have h2:=hW.2.2;have h3:=HIN.out;have h4:=zAd HH.out.ga.dom;omega
        have hkfit:∀q∈kids,I64 q:=λq hq=>by
         have:=hW.2.1 q hq;have h1:=this.1;have h2:=this.2;constructor<;>omega
        have hgk:=HKW.out;have hs6:=hL.kept.size
        have zDn:=hid (zMA c.M st'.all F' Z' (λb=>(w.heap.size≤b∧b<w3.heap.size)∨vk.ownBlock=some b) (i:Int) (.slice (some ⟨g,0,none⟩) (zi ds p q).length c1) vk (zi ds p q) kids wr hL.mem.mkr
         ((HV6.out.keep (hL.kept.mono λb _ hb=>zC6.out b (Nat.le_trans hs5 hb.1))).mono λb hb=>Or.inl ⟨Nat.le_trans hs5 hb.1,hb.2⟩) ((zCl hL.own hkfit (by omega)).mono λb hb=>Or.inr hb)
         (λb hb=>by
          rcases hb with hb|hb
          ·exact(zEq hL.hF (zC6.out b hb.1) hb.2 (Nat.le_refl _)).1
          ·exact(hL.row b hb).1.1)
         (by have h4:=zAd HH.out.ga.dom;have h5:=HIL.out;constructor<;>omega) hlk.symm hne (by omega) (by omega) (HH.out.tabAt hgk))
        obtain⟨AK,capk,rfl,-,-,-⟩:=Row.of_own hL.own (by decide);have m0:=hL.mem.mv.cell;have m0l:=hL.mem.mv.lt;have HL:=hid hL;clear hL hlk hW hne hkfit hgk hall;generalize zb st'.all i (zi ds p q) kids=o at*;(go_wp2_with fail);refine zDn.out.mono ?_;intro e w8 hp8;obtain⟨rfl,⟨F2,Z2,hm2,hF2,hZ2⟩,hk8⟩:=hp8;have hg8:=AnW.made HL.out.mem (Below.refl _ _) hm2 hF2 hZ2 hk8;have n0:=hg8.dv.cell;have n0l:=hg8.dv.lt;have HG8:=hid hg8;have HD8:=hid hg8.done;have HK8:=hid (And.intro hk8 (And.intro hF2 hZ2));clear hg8 hm2 hF2 hZ2 hk8 zDn m0 m0l;go_wp2_with(at_mapUpdate;refine zBm rfl (.tmp 129) (.tmp 132) _ rfl Tryz.keyP (e:=3) Tryz.underlying87 rfl (HD8.out) ((xi:Int),(yi:Int)) rfl ?_;intro w9 hm9 hk9 hsz9 hce9 hfr9);have hm9':zu zEF w9 c.db (kvA (zCI st'.done ((xi:Int),(yi:Int)) o.1)):=by rw[<-zPa];exact hm9
        have HE:=hid (show zHS c (.slice (some ⟨ab,aoff,none⟩) a.length acap) (.slice (some ⟨bb,boff,none⟩) b.length bcap) (.slice (some ⟨fb,foff,none⟩) ds.length dcap) w F Z (zAR ds a b (k+1) xi yi st) (.returned (.int .i64 o.1)) w9 from by
         rw[zRH.out];have hs8:=HK8.out.1.size;have h6:=HG3.out.2.size;refine⟨rfl,⟨F2,Z2,HG8.out.setDone hm9' hk9,λb hb=> ?_,λb hb=> ?_⟩,⟨hk9.os.trans (HK8.out.1.os.trans HKW.out.os),hk9.tape.trans (HK8.out.1.tape.trans HKW.out.tape),hk9.output.trans (HK8.out.1.output.trans HKW.out.output),by have:=HKW.out.size;omega,λk hk hz=> ?_⟩⟩
         ·rcases HK8.out.2.1 b hb with hb|hb
          ·rcases HL.out.hF b hb with hb|hb
           ·exact Or.inl hb
           ·exact Or.inr (by omega)
          ·exact Or.inr (by omega)
         ·rcases HK8.out.2.2 b hb with hb|hb
          ·rcases HL.out.hZ b hb with hb|hb
           ·exact Or.inl hb
           ·exact Or.inr (by omega)
          ·exact Or.inr (by omega)
         ·have hs9:=HKW.out.size
          rw[hk9.block k (by omega) hz.2,HK8.out.1.block k (by omega) (zEq HL.out.hF hz hk (by omega)).1,HKW.out.block k hk hz])
        clear hm9 hm9' hk9 hsz9 hce9 hfr9 n0 n0l;go_wp2;go_ret;exact HE.out
theorem zTR:∀k:Nat,zSJ c (.slice AA a.length acap) (.slice AB b.length bcap) (.slice D ds.length dcap) a b ds Zn B0 k:=by
 intro k
 induction k with
 |zero=>intro x y w st F Z _ _ hm _;omega
 |succ k ih=>
  intro x y w st F Z hx hy hm h
  cases hk:kvI st.done (x,y)with
  |some r=>
   (have e:zAR ds a b (k+1) x y st=(r,st):=by unfold zAR;rw[hk]);rw[e];exact zQy x y h hk
  |none=>exact zTQ k ih x y hm h hx hy hk
end
end Go.Proofs.YtonmdbdopchkaaaGreatDoor
