/- Texts V25. -/
import Derived.Test.YtonmdbdopchkaaaGreatDoorM44
import Derived.Deep.CutRange
set_option linter.all false
namespace Go.Proofs.YtonmdbdopchkaaaGreatDoor
open Go.RowKit
set_option maxHeartbeats 8000000
set_option maxRecDepth 100000
theorem zSL(ds:List zC)(a b:List zB)(k:Nat)(x y:Int)(st:RSt):zAH ds a b (k+1) x y st=
  if 0<dn st.done x y then(dn st.done x y-1,st)
  else if(nAt a x).kids =[]∧(nAt b y).kids =[]then
   ((zW st.all ⟨(nAt a x).leaf &&(nAt b y).leaf,0,[],[]⟩).1,⟨(zW st.all ⟨(nAt a x).leaf &&(nAt b y).leaf,0,[],[]⟩).2,zD4 st.done x y ((zW st.all ⟨(nAt a x).leaf &&(nAt b y).leaf,0,[],[]⟩).1+1)⟩)
  else
   ((zb (zH (λv st=>zAH ds a b k (zG a x (min (zF ds (nAt a x)) (zF ds (nAt b y))) v) (zG b y (min (zF ds (nAt a x)) (zF ds (nAt b y))) v) st) (zi ds (nAt a x) (nAt b y)) st).2.all (min (zF ds (nAt a x)) (zF ds (nAt b y))) (zi ds (nAt a x) (nAt b y)) (zH (λv st=>zAH ds a b k (zG a x (min (zF ds (nAt a x)) (zF ds (nAt b y))) v) (zG b y (min (zF ds (nAt a x)) (zF ds (nAt b y))) v) st) (zi ds (nAt a x) (nAt b y)) st).1).1,
    ⟨(zb (zH (λv st=>zAH ds a b k (zG a x (min (zF ds (nAt a x)) (zF ds (nAt b y))) v) (zG b y (min (zF ds (nAt a x)) (zF ds (nAt b y))) v) st) (zi ds (nAt a x) (nAt b y)) st).2.all (min (zF ds (nAt a x)) (zF ds (nAt b y))) (zi ds (nAt a x) (nAt b y)) (zH (λv st=>zAH ds a b k (zG a x (min (zF ds (nAt a x)) (zF ds (nAt b y))) v) (zG b y (min (zF ds (nAt a x)) (zF ds (nAt b y))) v) st) (zi ds (nAt a x) (nAt b y)) st).1).2,
     zD4 (zH (λv st=>zAH ds a b k (zG a x (min (zF ds (nAt a x)) (zF ds (nAt b y))) v) (zG b y (min (zF ds (nAt a x)) (zF ds (nAt b y))) v) st) (zi ds (nAt a x) (nAt b y)) st).2.done x y ((zb (zH (λv st=>zAH ds a b k (zG a x (min (zF ds (nAt a x)) (zF ds (nAt b y))) v) (zG b y (min (zF ds (nAt a x)) (zF ds (nAt b y))) v) st) (zi ds (nAt a x) (nAt b y)) st).2.all (min (zF ds (nAt a x)) (zF ds (nAt b y))) (zi ds (nAt a x) (nAt b y)) (zH (λv st=>zAH ds a b k (zG a x (min (zF ds (nAt a x)) (zF ds (nAt b y))) v) (zG b y (min (zF ds (nAt a x)) (zF ds (nAt b y))) v) st) (zi ds (nAt a x) (nAt b y)) st).1).1+1)⟩):=rfl
structure B5 (w W:World) (A B D:Value) (P Q:Array Value):Prop where
 a:Blk W w.heap.size 30 #[A]
 b:Blk W (w.heap.size+1) 30 #[B]
 d:Blk W (w.heap.size+1+1) 27 #[D]
 p:Blk W (w.heap.size+1+1+1) 51 P
 q:Blk W (w.heap.size+1+1+1+1) 51 Q
theorem B5.new(w:World)(A B D:Value)(P Q:Array Value):B5 w (((((w.alloc (.cells #[A] 30)).alloc (.cells #[B] 30)).alloc (.cells #[D] 27)).alloc (.cells P 51)).alloc (.cells Q 51)) A B D P Q:=
 ⟨((((Blk.new w _ #[A]).alloc _).alloc _).alloc _).alloc _,(((Blk.new' (w.alloc (.cells #[A] 30)) _ #[B] (by simp)).alloc _).alloc _).alloc _,((Blk.new' ((w.alloc (.cells #[A] 30)).alloc (.cells #[B] 30)) _ #[D] (by simp)).alloc _).alloc _,
  (Blk.new' (((w.alloc (.cells #[A] 30)).alloc (.cells #[B] 30)).alloc (.cells #[D] 27)) _ P (by simp)).alloc _,Blk.new' ((((w.alloc (.cells #[A] 30)).alloc (.cells #[B] 30)).alloc (.cells #[D] 27)).alloc (.cells P 51)) _ Q (by simp)⟩
theorem B5.keep{w W W':World}{A B D:Value}{P Q:Array Value}{Z:zD}(h:B5 w W A B D P Q)(hk:zA Z W W')(hz:∀b,w.heap.size≤b->b≤w.heap.size+4->Z b):B5 w W' A B D P Q:=
 ⟨h.a.keep hk (hz _ (by omega) (by omega)),h.b.keep hk (hz _ (by omega) (by omega)),h.d.keep hk (hz _ (by omega) (by omega)),h.p.keep hk (hz _ (by omega) (by omega)),h.q.keep hk (hz _ (by omega) (by omega))⟩
theorem B5.on{w W W':World}{A B D:Value}{P Q:Array Value}(h:B5 w W A B D P Q)(hb:Below W.heap.size W W'):B5 w W' A B D P Q:=h.keep (Z:=λ_=>True) (.of_below hb) (λ_ _ _=>trivial)
theorem zJP(w:World)(o p q:Obj):Below w.heap.size w (((w.alloc o).alloc p).alloc q):=(zAy w o p).alloc (by simp;omega) q
theorem zU3(w:World)(o p q r s:Obj):Below w.heap.size w (((((w.alloc o).alloc p).alloc q).alloc r).alloc s):=((zJP w o p q).alloc (by simp;omega) r).alloc (by simp;omega) s
theorem zOT{α:Type}{p q:Prop}[Decidable p][Decidable q](h:p↔q)(x y:α):(if p then x else y)=if q then x else y:=by
 by_cases hp:p
 ·rw[if_pos hp,if_pos (h.1 hp)]
 ·rw[if_neg hp,if_neg (λhq=>hp (h.2 hq))]
theorem zOU{ds:List zC}{a b:List zB}(hl:zC5 ds)(ha:Good ds a)(hb:Good ds b){P:List (Int × Int)}(hP:Closed ds a b P){k:Nat}{x y i:Int}(hc:∀v,(zG a x i v,zG b y i v)∈P)
  (hm:∀v,ds.length-(min (zF ds (nAt a (zG a x i v))) (zF ds (nAt b (zG b y i v)))).toNat <k):∀(l:List Int)(st:RSt),RInv ds a b P st->
  RInv ds a b P (zH (λv st=>zAH ds a b k (zG a x i v) (zG b y i v) st) l st).2∧∀q∈(zH (λv st=>zAH ds a b k (zG a x i v) (zG b y i v) st) l st).1,Rng (zH (λv st=>zAH ds a b k (zG a x i v) (zG b y i v) st) l st).2.all q
 |[],st,h=>⟨h,by simp[zH]⟩
 |v::l,st,h=>by
  obtain⟨A1,F1⟩:=zFV hl ha hb hP k (zG a x i v) (zG b y i v) st (hc v) (hm v) h;obtain⟨A2,R2⟩:=zOU hl ha hb hP hc hm l _ A1;obtain⟨t,ht⟩:=zGl (f:=λv st=>zAH ds a b k (zG a x i v) (zG b y i v) st) (λv st=>zKJ ds a b k _ _ st) l (zAH ds a b k (zG a x i v) (zG b y i v) st).2;refine⟨A2,λq hq=> ?_⟩;rw[zH]at hq;rcases List.mem_cons.1 hq with rfl|hq
  ·show Rng (zH (λv st=>zAH ds a b k (zG a x i v) (zG b y i v) st) l (zAH ds a b k (zG a x i v) (zG b y i v) st).2).2.all _;rw[ht];exact F1.rng.app t
  ·exact R2 q hq
theorem zLC{f:Int->RSt->Int × RSt}(v:Int):∀(l:List Int)(st:RSt),zH f (l++[v]) st=((zH f l st).1++[(f v (zH f l st).2).1],(f v (zH f l st).2).2)
 |[],st=>rfl
 |x::l,st=>by
  rw[List.cons_append,zH,zLC v l];rfl
theorem AdL.below{w6 wr w8:World}{M:Nat}{F Z F' Z':zD}{DB:Nat}{R:Nat->Nat}{n m:Nat}{st:RSt}{kids:List Int}{vk:Value}(h:AdL w6 wr M F Z DB R n m st kids vk F' Z')(hb:Below wr.heap.size wr w8):AdL w6 w8 M F Z DB R n m st kids vk F' Z':=
 ⟨zl h.own (zA.of_below (Z:=λ_=>True) hb) (λ_ _=>trivial),h.row,h.mem.below hb,h.hF,h.hZ,h.dnm.below hb,h.kept.trans (.of_below hb)⟩
theorem Apart.on{w w':World}{F Z:zD}{DB:Nat}{R:Nat->Nat}{n:Nat}(h:Apart w F Z DB R n)(hs:w.heap.size≤w'.heap.size):Apart w' F Z DB R n:=
 ⟨⟨h.db.1,h.db.2.1,Nat.lt_of_lt_of_le h.db.2.2 hs⟩,λi hi=>⟨(h.r i hi).1,(h.r i hi).2.1,Nat.lt_of_lt_of_le (h.r i hi).2.2 hs⟩⟩
theorem zP1{ds:List zC}{a b:List zB}(hl:zC5 ds)(ha:Good ds a)(hb:Good ds b){P:List (Int × Int)}(hP:Closed ds a b P)(hPl:P.length≤900000)(hca:∀q∈a,q.cuts.length≤1000)(hcb:∀q∈b,q.cuts.length≤1000)(AA AB D:Option Addr)(acap bcap dcap DB:Nat)(R:Nat->Nat):
  ∀(k:Nat)(x y:Int)(st:RSt)(M:Nat)(F Z Zi:Nat->Prop)(w:World),(x,y)∈P->ds.length-(min (zF ds (nAt a x)) (zF ds (nAt b y))).toNat <k->RInv ds a b P st->RkS w M st.all F Z->DnM w DB R a.length b.length st.done->
  zO Zi w (.slice AA a.length acap) a->zO Zi w (.slice AB b.length bcap) b->Facts Zi w (.slice D ds.length dcap) ds->(∀c,Zi c->¬F c∧(∀i,i<a.length->c≠R i)∧c<w.heap.size)->Apart w F Z DB R a.length->
  Calls Tryz.prog 48 #[.pointer (some ⟨M,0,none⟩),.agg #[.slice AA a.length acap],.agg #[.slice AB b.length bcap],.int .i64 x,.int .i64 y,.agg #[.slice D ds.length dcap],.slice (some ⟨DB,0,none⟩) a.length a.length] w (zOO w M F Z DB R a.length b.length (zAH ds a b k x y st)):=by
 intro k
 induction k with
 |zero=>intro x y st M F Z Zi w _ h;omega
 |succ k ih=>
 intro x y st M F Z Zi w hxy hkk hst hrk hdn hna hnb hds hzi hap;obtain⟨hx,hy,hcl⟩:=hP _ hxy;simp only at hx hy hcl;obtain⟨xn,rfl⟩:=Int.eq_ofNat_of_zero_le hx.1;obtain⟨yn,rfl⟩:=Int.eq_ofNat_of_zero_le hy.1;have hxn:xn<a.length:=by have:=hx.2;omega
 have hyn:yn<b.length:=by have:=hy.2;omega
 have HIH:=hid ih;clear ih;have eg:∀args w,(callFunc 48 args).run Tryz.prog w= .ok (.enter 48 args) w:=enters_of Tryz.func48 (by kernel_rfl) rfl;have HSP:=hid (zFV hl ha hb hP (k+1) xn yn st hxy hkk hst);have zV3:=hid (λ(i:Int) hc hm l s h=>zOU (ds:=ds) hl ha hb hP (k:=k) (x:=(xn:Int)) (y:=(yn:Int)) (i:=i) hc hm l s h);have HSL:=hid (λ(s:RSt)(h:RInv ds a b P s)=>(show s.all.length≤900000 from Nat.le_trans (h.length_le hl) hPl));have HU:=hid (zSL ds a b k xn yn st);have HNA:=hid hna;have HNB:=hid hnb;have HDS:=hid hds;have HRK:=hid hrk;have HDN:=hid hdn;have HZI:=hid hzi;have HAP:=hid hap;have HST:=hid hst;have HXY:=hid hxy;obtain⟨_,_,ea,-,-,hata⟩:=hna.open_;obtain⟨ab,aoff,vpc,vpk,ea2,haz,hab,p0,p1,p2,p3,pf,pc,pk⟩:=hata xn hxn;injection ea with e1 e2 e3;subst e1;subst ea2;clear e2 e3 hata;obtain⟨_,_,eb,-,-,hatb⟩:=hnb.open_;obtain⟨bb,boff,vqc,vqk,eb2,hbz,hbb,q0,q1,q2,q3,qf,qc,qk⟩:=hatb yn hyn;injection eb with e1 e2 e3;subst e1;subst eb2;clear e2 e3 hatb;have HKX:=hid (And.intro hx (And.intro hy (And.intro hxn hyn)));have HPA:=hid (And.intro (zAI hxn) (zAI hyn));have HPN:=hid (And.intro (show zd Zi w [.bool a[xn].leaf,.int .i64 a[xn].fact,vpc,vpk] a[xn] from⟨vpc,vpk,rfl,pf,pc,pk⟩) (show zd Zi w [.bool b[yn].leaf,.int .i64 b[yn].fact,vqc,vqk] b[yn] from⟨vqc,vqk,rfl,qf,qc,qk⟩));have HCL:=hid (And.intro (hca _ (List.getElem_mem hxn)) (hcb _ (List.getElem_mem hyn)));have zOt:=hid hcl;have HPC:=hid (And.intro (And.intro pc pk) (And.intro qc qk));have HGA:=hid (And.intro ha (And.intro hb (And.intro hl hkk)));have HIA:=hid (λh=>ha.inner hx h);have HIB:=hid (λh=>hb.inner hy h);rw[zAI hxn]at HU zOt HIA;rw[zAI hyn]at HU zOt HIB;obtain⟨⟨PU,pucap,rfl,-,-,-,-⟩,-⟩:=pc;obtain⟨⟨PK,pkcap,rfl,-,-,-,-⟩,-⟩:=pk;obtain⟨⟨QU,qucap,rfl,-,-,-,-⟩,-⟩:=qc;obtain⟨⟨QK,qkcap,rfl,-,-,-,-⟩,-⟩:=qk;have dO:=hdn.outer xn hxn;have dI:=hdn.at_ hxn hyn;obtain⟨dlv,rlv⟩:=hdn.live hxn;have hv:0≤dn st.done xn yn∧dn st.done xn yn≤1000001:=by have:=hdn.fit xn yn;unfold dn;rw[Int.toNat_natCast,Int.toNat_natCast];exact this
 have ld1:DB<w.heap.size+1:=by omega
 have ld2:DB<w.heap.size+1+1:=by omega
 have ld3:DB<w.heap.size+1+1+1:=by omega
 have ld4:DB<w.heap.size+1+1+1+1:=by omega
 have lr1:R xn<w.heap.size+1:=by omega
 have lr2:R xn<w.heap.size+1+1:=by omega
 have lr3:R xn<w.heap.size+1+1+1:=by omega
 have lr4:R xn<w.heap.size+1+1+1+1:=by omega
 have la1:ab<w.heap.size+1:=by omega
 have la2:ab<w.heap.size+1+1:=by omega
 have la3:ab<w.heap.size+1+1+1:=by omega
 have la4:ab<w.heap.size+1+1+1+1:=by omega
 have lb1:bb<w.heap.size+1:=by omega
 have lb2:bb<w.heap.size+1+1:=by omega
 have lb3:bb<w.heap.size+1+1+1:=by omega
 have lb4:bb<w.heap.size+1+1+1+1:=by omega
 have hx1:((xn:Nat):Int)<(a.length:Int):=by omega
 have hx0:(0:Int)≤((xn:Nat):Int):=by omega
 have hy1:((yn:Nat):Int)<(b.length:Int):=by omega
 have hy0:(0:Int)≤((yn:Nat):Int):=by omega
 clear hx hy hcl hkk hst hrk hdn hna hnb hds hzi hap hxy haz hbz pf qf hca hcb ha hb hl hP hPl;generalize a[xn]=p at*;generalize b[yn]=q at*;go_enter Tryz.func48,Tryz.ntmps48
 by_cases hpos:0<dn st.done xn yn
 ·have HR:=hid (HU.out.trans (if_pos hpos));have e0:decide (0<dn st.done (xn:Int) (yn:Int))=true:=decide_eq_true hpos;have HB:=hid (zJP w (.cells #[(.slice (some ⟨ab,aoff,none⟩) a.length acap)] 30) (.cells #[(.slice (some ⟨bb,boff,none⟩) b.length bcap)] 30) (.cells #[(.slice D ds.length dcap)] 27));clear hpos HU;generalize dn st.done xn yn=v at*;obtain⟨hv0,hv1⟩:=hv;go_wp2;go_ret;rw[HR.out];have hbw:=HB.out;exact⟨rfl,⟨F,Z,HRK.out.below hbw,λ_ h=>Or.inl h,λ_ h=>Or.inl h⟩,HDN.out.below hbw,.of_below hbw⟩
 have e0:decide (0<dn st.done (xn:Int) (yn:Int))=false:=decide_eq_false hpos;replace HU:=hid (HU.out.trans (if_neg hpos));clear hpos;generalize dn st.done (xn:Int) (yn:Int)=v at*;have HB5:=hid (B5.new w (.slice (some ⟨ab,aoff,none⟩) a.length acap) (.slice (some ⟨bb,boff,none⟩) b.length bcap) (.slice D ds.length dcap) #[.bool p.leaf,.int .i64 p.fact,.slice PU p.cuts.length pucap,.slice PK p.kids.length pkcap] #[.bool q.leaf,.int .i64 q.fact,.slice QU q.cuts.length qucap,.slice QK q.kids.length qkcap]);have HBW:=hid (zU3 w (.cells #[(.slice (some ⟨ab,aoff,none⟩) a.length acap)] 30) (.cells #[(.slice (some ⟨bb,boff,none⟩) b.length bcap)] 30) (.cells #[(.slice D ds.length dcap)] 27) (.cells #[.bool p.leaf,.int .i64 p.fact,.slice PU p.cuts.length pucap,.slice PK p.kids.length pkcap] 51) (.cells #[.bool q.leaf,.int .i64 q.fact,.slice QU q.cuts.length qucap,.slice QK q.kids.length qkcap] 51));by_cases hleaf:p.kids=[]∧q.kids=[]
 ·have HR:=hid (HU.out.trans (if_pos hleaf))
  have HOR:=hid (show 0≤(zW st.all ⟨p.leaf&&q.leaf,0,[],[]⟩).1∧(zW st.all ⟨p.leaf&&q.leaf,0,[],[]⟩).1≤900000 from by
   have h1:=HSP.out.2.rng;have h2:=HSL.out _ HSP.out.1;rw[HR.out]at h1 h2;simp only at h1 h2
   exact⟨h1.1,by have:=h1.2;omega⟩)
  obtain⟨kp,kq⟩:=hleaf;have e1:((p.kids.length:Int)==0)=true:=by simp[kp]
  have e2:((q.kids.length:Int)==0)=true:=by simp[kq]
  have zLw:=hid (λW(hW:Below w.heap.size w W)(c:Bool)=>zLd M st.all F Z (λ_=>False) ⟨c,0,[],[]⟩ [.bool c,.int .i64 0,.slice none 0 0,.slice none 0 0] W (HRK.out.below hW) ⟨_,_,rfl,(show I64 0 from by constructor<;>omega),zL.nil _ _,zL.nil _ _⟩ (λ_ h=>h.elim) (by have:=HSL.out _ HST.out;omega));clear kp kq HU;cases hpl:p.leaf
  ·rw[hpl]at HR HOR p0 HB5 HBW;simp only[Bool.false_and]at HR HOR;have HAD:=hid (zLw.out _ HBW.out false);(go_wp2_with fail);refine HAD.out.mono ?_;intro e w6 hp6;have hp6':=zFM HBW.out (Zn:=λ_=>False) (λ_ h=>h.elim) hp6;obtain rfl:=hp6.1
   have HF:=hid (show(∃F' Z',RkS w6 M (zW st.all ⟨false,0,[],[]⟩).2 F' Z'∧(∀c,F' c->F c∨w.heap.size≤c)∧∀c,Z' c->Z c∨w.heap.size≤c)∧DnM w6 DB R a.length b.length st.done∧zA (λc=>¬F c∧∀i,i<a.length->c≠R i) w w6 from
    ⟨hp6'.2.1,HDN.out.keep (hp6'.2.2.mono λc _ hc=>by
     rcases hc with rfl|⟨i,hi,rfl⟩
     ·exact HAP.out.db.1
     ·exact(HAP.out.r i hi).1),hp6'.2.2.mono λc _ hc=>hc.1⟩)
   clear hp6 hp6' HAD zLw dO dI dlv rlv p0 p1 p2 p3 q0 q1 q2 q3;generalize zW st.all ⟨false,0,[],[]⟩=o at*;have dO:w6.cell? ⟨DB,xn,none⟩=some (.slice (some ⟨R xn,0,none⟩) b.length b.length):=HF.out.2.1.outer xn HKX.out.2.2.1;have dI:=HF.out.2.1.at_ HKX.out.2.2.1 HKX.out.2.2.2;have dF:w6.frozen? ⟨R xn,yn,none⟩=false:=(HF.out.2.1.inner xn HKX.out.2.2.1).frozen yn;obtain⟨dlv,rlv⟩:=HF.out.2.1.live HKX.out.2.2.1;have hor:=HOR.out;obtain⟨ho0,ho1⟩:=hor;have HFS:=hid (zHc (v:=o.1+1) HKX.out.2.2.1 HKX.out.2.2.2 HF.out.1 HF.out.2.1 HF.out.2.2 HAP.out (by omega) (by omega));go_wp2;go_ret;rw[HR.out];exact⟨rfl,HFS.out⟩
  ·rw[hpl]at HR HOR p0 HB5 HBW;simp only[Bool.true_and]at HR HOR;have HAD:=hid (zLw.out _ HBW.out q.leaf);(go_wp2_with fail);refine HAD.out.mono ?_;intro e w6 hp6;have hp6':=zFM HBW.out (Zn:=λ_=>False) (λ_ h=>h.elim) hp6;obtain rfl:=hp6.1
   have HF:=hid (show(∃F' Z',RkS w6 M (zW st.all ⟨q.leaf,0,[],[]⟩).2 F' Z'∧(∀c,F' c->F c∨w.heap.size≤c)∧∀c,Z' c->Z c∨w.heap.size≤c)∧DnM w6 DB R a.length b.length st.done∧zA (λc=>¬F c∧∀i,i<a.length->c≠R i) w w6 from
    ⟨hp6'.2.1,HDN.out.keep (hp6'.2.2.mono λc _ hc=>by
     rcases hc with rfl|⟨i,hi,rfl⟩
     ·exact HAP.out.db.1
     ·exact(HAP.out.r i hi).1),hp6'.2.2.mono λc _ hc=>hc.1⟩)
   clear hp6 hp6' HAD zLw dO dI dlv rlv p0 p1 p2 p3 q0 q1 q2 q3;generalize zW st.all ⟨q.leaf,0,[],[]⟩=o at*;have dO:w6.cell? ⟨DB,xn,none⟩=some (.slice (some ⟨R xn,0,none⟩) b.length b.length):=HF.out.2.1.outer xn HKX.out.2.2.1;have dI:=HF.out.2.1.at_ HKX.out.2.2.1 HKX.out.2.2.2;have dF:w6.frozen? ⟨R xn,yn,none⟩=false:=(HF.out.2.1.inner xn HKX.out.2.2.1).frozen yn;obtain⟨dlv,rlv⟩:=HF.out.2.1.live HKX.out.2.2.1;have hor:=HOR.out;obtain⟨ho0,ho1⟩:=hor;have HFS:=hid (zHc (v:=o.1+1) HKX.out.2.2.1 HKX.out.2.2.2 HF.out.1 HF.out.2.1 HF.out.2.2 HAP.out (by omega) (by omega));go_wp2;go_ret;rw[HR.out];exact⟨rfl,HFS.out⟩
 replace HU:=hid (HU.out.trans (if_neg hleaf))
 have hi:min (zF ds p) (zF ds q)<ds.length:=by
  by_cases kp:p.kids=[]
  ·(have kq:q.kids≠[]:=λe=>hleaf ⟨kp,e⟩);have I:=HIB.out kq;have:=I.f1;(have e:zF ds q=q.fact:=by unfold zF;rw[if_neg kq]);omega
  ·have I:=HIA.out kp;have:=I.f1;(have e:zF ds p=p.fact:=by unfold zF;rw[if_neg kp]);omega
 have hax:=zC7 HGA.out.1 (ds:=ds) HKX.out.1;have hay:=zC7 HGA.out.2.1 (ds:=ds) HKX.out.2.1;rw[HPA.out.1]at hax;rw[HPA.out.2]at hay;obtain⟨fi,hfi⟩:=Int.eq_ofNat_of_zero_le (show 0≤min (zF ds p) (zF ds q) by omega);have HFI:=hid (show min (zF ds p) (zF ds q)=(fi:Int)∧fi<ds.length∧(fi:Int)≤zF ds p∧(fi:Int)≤zF ds q from⟨hfi,by omega,by omega,by omega⟩);rw[hfi]at HU zOt
 have HM:=hid (λv=>(show ds.length-(min (zF ds (nAt a (zG a xn fi v))) (zF ds (nAt b (zG b yn fi v)))).toNat <k from by
  have sx:=zBg HGA.out.1 (ds:=ds) (v:=v) HKX.out.1 (i:=(fi:Int)) (by rw[HPA.out.1];exact HFI.out.2.2.1) (by have:=HFI.out.2.1;omega);have sy:=zBg HGA.out.2.1 (ds:=ds) (v:=v) HKX.out.2.1 (i:=(fi:Int)) (by rw[HPA.out.2];exact HFI.out.2.2.2) (by have:=HFI.out.2.1;omega);have hk:=HGA.out.2.2.2;rw[HPA.out.1,HPA.out.2,HFI.out.1]at hk
  omega))
 have zRN:=hid (show zF ds p=if p.kids=[]then(ds.length:Int)else p.fact from rfl);have zRO:=hid (show zF ds q=if q.kids=[]then(ds.length:Int)else q.fact from rfl);have HLF:=hid hleaf
 have HDL:=hid (show ds.length≤3518437208883 from by
  obtain⟨_,_,_,_,h2,_⟩:=HDS.out.open_
  exact h2)
 clear hi hax hay hfi hleaf;go_upto_region 6 with fail
 generalize (((((w.alloc (.cells #[(.slice (some ⟨ab,aoff,none⟩) a.length acap)] 30)).alloc (.cells #[(.slice (some ⟨bb,boff,none⟩) b.length bcap)] 30)).alloc (.cells #[(.slice D ds.length dcap)] 27)).alloc (.cells #[.bool p.leaf,.int .i64 p.fact,.slice PU p.cuts.length pucap,.slice PK p.kids.length pkcap] 51)).alloc (.cells #[.bool q.leaf,.int .i64 q.fact,.slice QU q.cuts.length qucap,.slice QK q.kids.length qkcap] 51))=w5 at*;clear dO dI dlv rlv p0 p1 p2 p3 q0 q1 q2 q3 hab hbb ld1 ld2 ld3 ld4 lr1 lr2 lr3 lr4 la1 la2 la3 la4 lb1 lb2 lb3 lb4 hx1 hx0 hy1 hy0;go_cut[61] from 26 (λv wx=>v= .bool false∧w5=wx)
 case first=>
  as_aux_lemma=>
   have n3:=HB5.out.p.at3;have nlv:=HB5.out.p.lt;have m3:=HB5.out.q.at3;have mlv:=HB5.out.q.lt;by_cases kp:p.kids=[]
   ·(have e1:((p.kids.length:Int)==0)=true:=by simp[kp]);(have kq:q.kids≠[]:=λe=>HLF.out ⟨kp,e⟩);(have e2:((q.kids.length:Int)==0)=false:=by simp[kq]);clear kp kq;go_wp2;go_meet;exact⟨rfl,rfl⟩
   ·(have e1:((p.kids.length:Int)==0)=false:=by simp[kp]);clear kp;go_wp2;go_meet;exact⟨rfl,rfl⟩
 case rest=>
  obtain⟨rfl,rfl⟩:=hcut;have n1:=HB5.out.p.at1;have n3:=HB5.out.p.at3;have nlv:=HB5.out.p.lt;have m1:=HB5.out.q.at1;have m3:=HB5.out.q.at3;have mlv:=HB5.out.q.lt;have dd0:=HB5.out.d.at0;have ddl:=HB5.out.d.lt;go_upto_if 77 with fail
  go_cut[18] from 26 (λv wx=>v= .int .i64 (zF ds p)∧w5=wx)
  case first=>
   as_aux_lemma=>
    by_cases kp:p.kids=[]
    ·(have e1:decide ((0:Int)<(p.kids.length:Int))=false:=by simp[kp]);(have e1':decide (0<p.kids.length)=false:=by simp[kp]);have HQ:=hid (zRN.out.trans (if_pos kp));clear kp
     (first|rw[e1]|rw[e1'])
     go_wp2;go_meet;exact⟨by rw[HQ.out],rfl⟩
    ·(have e1:decide ((0:Int)<(p.kids.length:Int))=true:=by simp;exact List.length_pos_iff.2 kp);(have e1':decide (0<p.kids.length)=true:=by simp;exact List.length_pos_iff.2 kp);have HQ:=hid (zRN.out.trans (if_neg kp));clear kp
     (first|rw[e1]|rw[e1'])
     go_wp2;go_meet;exact⟨by rw[HQ.out],rfl⟩
  case rest=>
   obtain⟨rfl,rfl⟩:=hcut;(go_upto_if 83 with fail);go_cut[18] from 26 (λv wx=>v= .int .i64 (fi:Int)∧w5=wx)
   case first=>
    as_aux_lemma=>
     by_cases kq:q.kids=[]
     ·(have e1:decide ((0:Int)<(q.kids.length:Int))=false:=by simp[kq]);(have e1':decide (0<q.kids.length)=false:=by simp[kq]);have HQ:=hid (show zF ds p=(fi:Int) from by have h1:=HFI.out;have h2:=zRO.out.trans (if_pos kq);omega);clear kq
      (first|rw[e1]|rw[e1'])
      go_wp2;go_meet;exact⟨by rw[HQ.out],rfl⟩
     ·(have e1:decide ((0:Int)<(q.kids.length:Int))=true:=by simp;exact List.length_pos_iff.2 kq);(have e1':decide (0<q.kids.length)=true:=by simp;exact List.length_pos_iff.2 kq);have HQ:=hid (show zF ds q=q.fact from zRO.out.trans (if_neg kq));clear kq
      (first|rw[e1]|rw[e1'])
      go_wp2;go_meet;exact⟨congrArg (Value.int .i64) (by rw[<-HQ.out];exact HFI.out.1),rfl⟩
   case rest=>
    obtain⟨rfl,rfl⟩:=hcut;obtain⟨_,_,ed,-,-,hatd⟩:=HDS.out.open_;obtain⟨db,doff,ed2,hdz,hdb,-,-,d2,-,dfit⟩:=hatd fi HFI.out.2.1;injection ed with e1 e2 e3;subst e1;subst ed2;clear e2 e3 hatd;replace d2:=brd HBW.out d2 hdb;have d2l:=lt_of_cell d2;have HLO:=hid (show(fAt ds (fi:Int)).lo =(ds[fi]'HFI.out.2.1).lo ∧I64 (ds[fi]'HFI.out.2.1).lo from⟨by unfold fAt;rw[Int.toNat_natCast,List.getD_eq_getElem?_getD,List.getElem?_eq_getElem HFI.out.2.1];rfl,dfit.2.2.1⟩);have HFL:=HFI.out.2.1;(have hf1:((fi:Nat):Int)<(ds.length:Int):=by omega);(have hf0:(0:Int)≤((fi:Nat):Int):=by omega);clear hdz hdb dfit;generalize (ds[fi]'HFI.out.2.1).lo =lo at*;clear HFL;(go_upto_region 14 with fail);have HB5':=hid (HB5.out.on (zE w5 (.cells #[.int .i64 lo] 3)));have HBW':=hid (HBW.out.trans ((zE w5 (.cells #[.int .i64 lo] 3)).mono HBW.out.size))
    have HI:=hid (show zL (λc=>w.heap.size≤c) (w5.alloc (.cells #[.int .i64 lo] 3)) (.slice (some ⟨w5.heap.size,0,none⟩) 1 1) [lo] from by
     have h:=zDJ (W:=w5.alloc (.cells #[.int .i64 lo] 3)) (base:=w.heap.size) (Blk.new w5 3 #[.int .i64 lo]) HBW.out.size (by unfold maxLen;simp)
     exact zL.of_own (xs:=[lo]) (by simpa using h) (λy hy=>by rw[List.mem_singleton]at hy;rw[hy];exact HLO.out.2) (by simp))
    clear HB5 HBW n1 n3 nlv m1 m3 mlv dd0 ddl d2 d2l;have HB5:=HB5';have HBW:=HBW';clear HB5' HBW';generalize w5.alloc (.cells #[.int .i64 lo] 3)=w6 at*;go_cut[104] from 26 (λv wx=>v= .bool (decide (p.kids≠[]∧p.fact=(fi:Int)))∧w6=wx)
    case first=>
     as_aux_lemma=>
      have n1:=HB5.out.p.at1;have n3:=HB5.out.p.at3;have nlv:=HB5.out.p.lt;by_cases kp:p.kids=[]
      ·(have e1:decide ((0:Int)<(p.kids.length:Int))=false:=by simp[kp]);(have e1':decide (0<p.kids.length)=false:=by simp[kp]);have HQ:=hid (show decide (p.kids≠[]∧p.fact=(fi:Int))=false from decide_eq_false λh=>h.1 kp);clear kp;go_wp2;go_meet;exact⟨congrArg Value.bool HQ.out.symm,rfl⟩
      ·(have e1:decide ((0:Int)<(p.kids.length:Int))=true:=by simp;exact List.length_pos_iff.2 kp);(have e1':decide (0<p.kids.length)=true:=by simp;exact List.length_pos_iff.2 kp);by_cases hf:p.fact=(fi:Int)
       ·(have e2:(p.fact==(fi:Int))=true:=by simp[hf]);have HQ:=hid (show decide (p.kids≠[]∧p.fact=(fi:Int))=true from decide_eq_true ⟨kp,hf⟩);clear kp hf;go_wp2;go_meet;exact⟨congrArg Value.bool HQ.out.symm,rfl⟩
       ·(have e2:(p.fact==(fi:Int))=false:=by simp[hf]);have HQ:=hid (show decide (p.kids≠[]∧p.fact=(fi:Int))=false from decide_eq_false λh=>hf h.2);clear kp hf;go_wp2;go_meet;exact⟨congrArg Value.bool HQ.out.symm,rfl⟩
    case rest=>
     obtain⟨rfl,rfl⟩:=hcut;(go_upto_if 104 with fail);go_cut[19] from 26 (λv wx=>∃v',v'=v∧zL (λc=>w.heap.size≤c) wx v' ((if(p.kids≠[]∧p.fact=(fi:Int))then p.cuts else[]).foldl zAE [lo])∧B5 w wx (.slice (some ⟨ab,aoff,none⟩) a.length acap) (.slice (some ⟨bb,boff,none⟩) b.length bcap) (.slice (some ⟨db,doff,none⟩) ds.length dcap) #[.bool p.leaf,.int .i64 p.fact,.slice PU p.cuts.length pucap,.slice PK p.kids.length pkcap] #[.bool q.leaf,.int .i64 q.fact,.slice QU q.cuts.length qucap,.slice QK q.kids.length qkcap]∧Below w.heap.size w wx)
     case first=>
      as_aux_lemma=>
       by_cases hpa:(p.kids≠[]∧p.fact=(fi:Int))
       ·rw[decide_eq_true hpa];have zKS:=hid hpa;clear hpa;go_wp2;go_loopw[19,20] (λsv ix wr=>∃(k:Nat)(v:Value),k≤p.cuts.length∧ix= .int .i64 k∧v=sv∧Hid (zL (λc=>w.heap.size≤c) wr v ((p.cuts.take k).foldl zAE [lo]))∧Hid (B5 w wr (.slice (some ⟨ab,aoff,none⟩) a.length acap) (.slice (some ⟨bb,boff,none⟩) b.length bcap) (.slice (some ⟨db,doff,none⟩) ds.length dcap) #[.bool p.leaf,.int .i64 p.fact,.slice PU p.cuts.length pucap,.slice PK p.kids.length pkcap] #[.bool q.leaf,.int .i64 q.fact,.slice QU q.cuts.length qucap,.slice QK q.kids.length qkcap])∧Hid (Below w.heap.size w wr)) (λ_ ix _=>p.cuts.length-(intOf ix).toNat);case atStart=>exact⟨0,_,Nat.zero_le _,rfl,rfl,HI,HB5,HBW⟩
        case round=>
         obtain⟨k,v,hk,rfl,rfl,hi,h5,hbw⟩:=hrel;have n2:=h5.out.p.at2;have nlv:=h5.out.p.lt;by_cases hlt:k<p.cuts.length
         ·obtain⟨cb,coff,rfl,-,hcb,hcc⟩:=HPC.out.1.1.at_ hlt;have nc:=brd hbw.out hcc hcb;have ncl:=lt_of_cell nc;have HFT:=hid (zGm (m:=[lo]) hlt);have hc64:=HPC.out.1.1.2 _ (List.getElem_mem hlt);have hne:(p.cuts.take k).foldl zAE [lo]≠[]:=(zEU _ _).2 (by simp)
          have hln:((p.cuts.take k).foldl zAE [lo]).length ≤1000000:=by
           have h1:=(zEU (p.cuts.take k) [lo]).1;rw[List.length_take]at h1;have h2:=HCL.out.1;simp only[List.length_singleton]at h1;omega
          (have hk1:((k:Nat):Int)<(p.cuts.length:Int):=by omega);(have hk0:(0:Int)≤((k:Nat):Int):=by omega);(have hk9:k≤1000:=by have:=HCL.out.1;omega);generalize p.cuts[k]=c at*;have zN:=hid (λW(hW:Below wr.heap.size wr W)=>zDv (λc=>w.heap.size≤c) v ((p.cuts.take k).foldl zAE [lo]) c c c W (hi.out.keep (.of_below hW)) hne hln hc64);clear hcb hcc hc64 hne hln;go_wp2
          go_region_held3(λw'=>w'.cell? ⟨w.heap.size+1+1+1,2,none⟩=some (.slice (some ⟨cb,coff,none⟩) p.cuts.length pucap)∧w'.cell? ⟨cb,coff+k,none⟩=some (.int .i64 c))
           (first|exact⟨p0,p1⟩|(refine⟨?_,?_⟩<;>go_keep))
           (first
            |(go_at_call 95;refine(zN.out _ (Below.refl _ _).drew).mono ?_;rintro e w9 ⟨v9,rfl,hi9,hb9⟩;have hb9:Below wr.heap.size wr w9:=(Below.refl _ _).drew.trans hb9;have p0:=brd hb9 n2 nlv;have p1:=brd hb9 nc ncl))
          have HQ1:=hid (show zL (λc=>w.heap.size≤c) w9 v9 ((p.cuts.take (k+1)).foldl zAE [lo]) from by
           rw[HFT.out,<-zMg]
           exact hi9.mono λx hx=>by
            have h1:=hbw.out.size;rcases hx with hx|hx
            ·exact hx
            ·have h2:wr.drew.heap.size=wr.heap.size:=rfl
             omega)
          have HQ2:=hid (h5.out.on hb9);have HQ3:=hid (hbw.out.trans (hb9.mono hbw.out.size));clear p0 p1 hi9 hb9 n2 nlv nc ncl zN;go_wp2;go_roundw;(case rel=>exact⟨k+1,_,by omega,by go_num,rfl,HQ1,HQ2,HQ3⟩);case measure=>simp[intOf];omega
         ·(obtain rfl:k=p.cuts.length:=by omega);rw[List.take_length]at hi;go_wp2;go_meet;exact⟨_,rfl,by rw[if_pos zKS.out];exact hi.out,h5.out,hbw.out⟩
       ·rw[decide_eq_false hpa];have zKS:=hid hpa;clear hpa;go_wp2;go_meet;exact⟨_,rfl,by rw[if_neg zKS.out];exact HI.out,HB5.out,HBW.out⟩
     case rest=>
      obtain⟨svp,rfl,hi,h5,hbw⟩:=hcut;have zRP:=hid hi;replace HB5:=hid h5;replace HBW:=hid hbw;clear hi h5 hbw HI;rename World=>w7
      have HS1:=hid (show((if(p.kids≠[]∧p.fact=(fi:Int))then p.cuts else[]).foldl zAE [lo]).length ≤1001∧(if(p.kids≠[]∧p.fact=(fi:Int))then p.cuts else[]).foldl zAE [lo]≠[] from by
       have h:=zEU (if(p.kids≠[]∧p.fact=(fi:Int))then p.cuts else[]) [lo];have h2:=HCL.out.1;refine⟨?_,h.2 (by simp)⟩;have h1:=h.1;simp only[List.length_singleton]at h1;split at h1
       ·rename_i hc;rw[if_pos hc];omega
       ·rename_i hc;rw[if_neg hc];simp)
      have zRQ:=hid (show ∃l:List Int,l=(if(p.kids≠[]∧p.fact=(fi:Int))then p.cuts else[]).foldl zAE [lo] from⟨_,rfl⟩);obtain⟨S1,hS1⟩:=zRQ.out;rw[<-hS1]at zRP HS1;replace zRQ:=hid hS1;clear hS1;(go_upto_region 19 with fail);go_cut[138] from 26 (λv wx=>v= .bool (decide (q.kids≠[]∧q.fact=(fi:Int)))∧w7=wx)
      case first=>
       as_aux_lemma=>
        have n1:=HB5.out.q.at1;have n3:=HB5.out.q.at3;have nlv:=HB5.out.q.lt;by_cases kp:q.kids=[]
        ·(have e1:decide ((0:Int)<(q.kids.length:Int))=false:=by simp[kp]);(have e1':decide (0<q.kids.length)=false:=by simp[kp]);have HQ:=hid (show decide (q.kids≠[]∧q.fact=(fi:Int))=false from decide_eq_false λh=>h.1 kp);clear kp;go_wp2;go_meet;exact⟨congrArg Value.bool HQ.out.symm,rfl⟩
        ·(have e1:decide ((0:Int)<(q.kids.length:Int))=true:=by simp;exact List.length_pos_iff.2 kp);(have e1':decide (0<q.kids.length)=true:=by simp;exact List.length_pos_iff.2 kp);by_cases hf:q.fact=(fi:Int)
         ·(have e2:(q.fact==(fi:Int))=true:=by simp[hf]);have HQ:=hid (show decide (q.kids≠[]∧q.fact=(fi:Int))=true from decide_eq_true ⟨kp,hf⟩);clear kp hf;go_wp2;go_meet;exact⟨congrArg Value.bool HQ.out.symm,rfl⟩
         ·(have e2:(q.fact==(fi:Int))=false:=by simp[hf]);have HQ:=hid (show decide (q.kids≠[]∧q.fact=(fi:Int))=false from decide_eq_false λh=>hf h.2);clear kp hf;go_wp2;go_meet;exact⟨congrArg Value.bool HQ.out.symm,rfl⟩
      case rest=>
       obtain⟨rfl,rfl⟩:=hcut;(go_upto_if 138 with fail);go_cut[19] from 26 (λv wx=>∃v',v'=v∧zL (λc=>w.heap.size≤c) wx v' ((if(q.kids≠[]∧q.fact=(fi:Int))then q.cuts else[]).foldl zAE S1)∧B5 w wx (.slice (some ⟨ab,aoff,none⟩) a.length acap) (.slice (some ⟨bb,boff,none⟩) b.length bcap) (.slice (some ⟨db,doff,none⟩) ds.length dcap) #[.bool p.leaf,.int .i64 p.fact,.slice PU p.cuts.length pucap,.slice PK p.kids.length pkcap] #[.bool q.leaf,.int .i64 q.fact,.slice QU q.cuts.length qucap,.slice QK q.kids.length qkcap]∧Below w.heap.size w wx)
       case first=>
        as_aux_lemma=>
         by_cases hpa:(q.kids≠[]∧q.fact=(fi:Int))
         ·rw[decide_eq_true hpa];have zKS:=hid hpa;clear hpa;go_wp2;go_loopw[19,21] (λsv ix wr=>∃(k:Nat)(v:Value),k≤q.cuts.length∧ix= .int .i64 k∧v=sv∧Hid (zL (λc=>w.heap.size≤c) wr v ((q.cuts.take k).foldl zAE S1))∧Hid (B5 w wr (.slice (some ⟨ab,aoff,none⟩) a.length acap) (.slice (some ⟨bb,boff,none⟩) b.length bcap) (.slice (some ⟨db,doff,none⟩) ds.length dcap) #[.bool p.leaf,.int .i64 p.fact,.slice PU p.cuts.length pucap,.slice PK p.kids.length pkcap] #[.bool q.leaf,.int .i64 q.fact,.slice QU q.cuts.length qucap,.slice QK q.kids.length qkcap])∧Hid (Below w.heap.size w wr)) (λ_ ix _=>q.cuts.length-(intOf ix).toNat);case atStart=>exact⟨0,_,Nat.zero_le _,rfl,rfl,zRP,HB5,HBW⟩
          case round=>
           obtain⟨k,v,hk,rfl,rfl,hi,h5,hbw⟩:=hrel;have n2:=h5.out.q.at2;have nlv:=h5.out.q.lt;by_cases hlt:k<q.cuts.length
           ·obtain⟨cb,coff,rfl,-,hcb,hcc⟩:=HPC.out.2.1.at_ hlt;have nc:=brd hbw.out hcc hcb;have ncl:=lt_of_cell nc;have HFT:=hid (zGm (m:=S1) hlt);have hc64:=HPC.out.2.1.2 _ (List.getElem_mem hlt);have hne:(q.cuts.take k).foldl zAE S1≠[]:=(zEU _ _).2 HS1.out.2
            have hln:((q.cuts.take k).foldl zAE S1).length ≤1000000:=by
             have h1:=(zEU (q.cuts.take k) S1).1;rw[List.length_take]at h1;have h2:=HCL.out.2;have h3:=HS1.out.1;omega
            (have hk1:((k:Nat):Int)<(q.cuts.length:Int):=by omega);(have hk0:(0:Int)≤((k:Nat):Int):=by omega);(have hk9:k≤1000:=by have:=HCL.out.2;omega);generalize q.cuts[k]=c at*;have zN:=hid (λW(hW:Below wr.heap.size wr W)=>zDv (λc=>w.heap.size≤c) v ((q.cuts.take k).foldl zAE S1) c c c W (hi.out.keep (.of_below hW)) hne hln hc64);clear hcb hcc hc64 hne hln;go_wp2
            go_region_held3(λw'=>w'.cell? ⟨w.heap.size+1+1+1+1,2,none⟩=some (.slice (some ⟨cb,coff,none⟩) q.cuts.length qucap)∧w'.cell? ⟨cb,coff+k,none⟩=some (.int .i64 c))
             (first|exact⟨p0,p1⟩|(refine⟨?_,?_⟩<;>go_keep))
             (first
              |(go_at_call 95;refine(zN.out _ (Below.refl _ _).drew).mono ?_;rintro e w9 ⟨v9,rfl,hi9,hb9⟩;have hb9:Below wr.heap.size wr w9:=(Below.refl _ _).drew.trans hb9;have p0:=brd hb9 n2 nlv;have p1:=brd hb9 nc ncl))
            have HQ1:=hid (show zL (λc=>w.heap.size≤c) w9 v9 ((q.cuts.take (k+1)).foldl zAE S1) from by
             rw[HFT.out,<-zMg]
             exact hi9.mono λx hx=>by
              have h1:=hbw.out.size;rcases hx with hx|hx
              ·exact hx
              ·have h2:wr.drew.heap.size=wr.heap.size:=rfl
               omega)
            have HQ2:=hid (h5.out.on hb9);have HQ3:=hid (hbw.out.trans (hb9.mono hbw.out.size));clear p0 p1 hi9 hb9 n2 nlv nc ncl zN;go_wp2;go_roundw;(case rel=>exact⟨k+1,_,by omega,by go_num,rfl,HQ1,HQ2,HQ3⟩);case measure=>simp[intOf];omega
           ·(obtain rfl:k=q.cuts.length:=by omega);rw[List.take_length]at hi;go_wp2;go_meet;exact⟨_,rfl,by rw[if_pos zKS.out];exact hi.out,h5.out,hbw.out⟩
         ·rw[decide_eq_false hpa];have zKS:=hid hpa;clear hpa;go_wp2;go_meet;exact⟨_,rfl,by rw[if_neg zKS.out];exact zRP.out,HB5.out,HBW.out⟩
       case rest=>
        obtain⟨svq,rfl,hi,h5,hbw⟩:=hcut;have zOu:=hid hi;replace HB5:=hid h5;replace HBW:=hid hbw;clear hi h5 hbw zRP;rename World=>w8
        have HMX:=hid (show zi ds p q=(if(q.kids≠[]∧q.fact=(fi:Int))then q.cuts else[]).foldl zAE S1 from by
         have hcp:∀(o:zB)(ho:zF ds o=if o.kids=[]then(ds.length:Int)else o.fact),(zF ds o=(fi:Int))↔(o.kids≠[]∧o.fact=(fi:Int)):=λo ho=>by
          have hf:=HFI.out.2.1;by_cases ko:o.kids=[]
          ·rw[ho,if_pos ko];exact⟨λh=>by omega,λh=>absurd ko h.1⟩
          ·rw[ho,if_neg ko];exact⟨λh=>⟨ko,h⟩,λh=>h.2⟩
         rw[zTK HFI.out.1.symm (λv hv he=> ?_) (λv hv he=> ?_),zOT (hcp q zRO.out),zOT (hcp p zRN.out),zRQ.out,<-HLO.out.1]
         ·have h:=(hcp p zRN.out).1 he;have:=zA3 (HIA.out h.1).asc v hv;rw[h.2]at this;exact this.1
         ·have h:=(hcp q zRO.out).1 he;have:=zA3 (HIB.out h.1).asc v hv;rw[h.2]at this
          exact this.1)
        have HLL:=hid (show(zi ds p q).length ≤2100∧zi ds p q≠[] from by
         rw[HMX.out];have h:=zEU (if(q.kids≠[]∧q.fact=(fi:Int))then q.cuts else[]) S1;have h1:=HS1.out;have h2:=HCL.out.2;refine⟨?_,h.2 h1.2⟩;have h3:=h.1;split at h3
         ·rename_i hc;rw[if_pos hc];omega
         ·rename_i hc;rw[if_neg hc];simp only[List.length_nil]at h3;omega)
        rw[<-HMX.out]at zOu;generalize zi ds p q=L at*;clear HMX zRQ;have HKI:=hid (λl=>zV3.out (fi:Int) zOt.out HM.out l st HST.out);obtain⟨SV,scap,rfl,-⟩:=zOu.out.form;have zWa:=hid (HRK.out.below HBW.out);have zWb:=hid (HDN.out.below HBW.out);have zRR:=hid (HAP.out.on HBW.out.size);have HZN:=hid (show ∀c,w.heap.size≤c->¬F c∧∀i,i<a.length->c≠R i from λc hc=>⟨λh=>by have:=HRK.out.liveF c h;omega,λi hi e=>by have:=(HAP.out.r i hi).2.2;omega⟩);have HR:=hid HU.out
        have HOR:=hid (show 0≤(zb (zH (λv st=>zAH ds a b k (zG a (xn:Int) (fi:Int) v) (zG b (yn:Int) (fi:Int) v) st) L st).2.all (fi:Int) L (zH (λv st=>zAH ds a b k (zG a (xn:Int) (fi:Int) v) (zG b (yn:Int) (fi:Int) v) st) L st).1).1∧(zb (zH (λv st=>zAH ds a b k (zG a (xn:Int) (fi:Int) v) (zG b (yn:Int) (fi:Int) v) st) L st).2.all (fi:Int) L (zH (λv st=>zAH ds a b k (zG a (xn:Int) (fi:Int) v) (zG b (yn:Int) (fi:Int) v) st) L st).1).1≤900000 from by
         have h1:=HSP.out.2.rng;have h2:=HSL.out _ HSP.out.1;rw[HR.out]at h1 h2;simp only at h1 h2
         exact⟨h1.1,by have:=h1.2;omega⟩)
        clear HU zV3;go_wp2;go_loopw[22,23,24,25] (λkv ix _ _ wr=>∃(kk:Nat)(vk:Value)(F' Z':zD),kk≤L.length∧ix= .int .i64 kk∧vk=kv∧Hid (AdL w8 wr M F Z DB R a.length b.length (zH (λv st=>zAH ds a b k (zG a (xn:Int) (fi:Int) v) (zG b (yn:Int) (fi:Int) v) st) (L.take kk) st).2 (zH (λv st=>zAH ds a b k (zG a (xn:Int) (fi:Int) v) (zG b (yn:Int) (fi:Int) v) st) (L.take kk) st).1 vk F' Z')) (λ_ ix _ _ _=>L.length-(intOf ix).toNat);case atStart=>exact⟨0,_,F,Z,Nat.zero_le _,rfl,rfl,hid (AdL.start zWa.out zWb.out)⟩
        case round=>
         obtain⟨kk,vk,F',Z',hkk,rfl,rfl,hL⟩:=hrel;by_cases hlt:kk<L.length
         ·obtain⟨vb,voff,rfl,hvz,hvl,hvc⟩:=zOu.out.at_ hlt;(rename World=>wy);have HB9:=hid (HB5.out.keep hL.out.kept (λc h1 _=>HZN.out c h1));have HKZ:=hid (show zA Zi w wy from(zA.of_below HBW.out).trans (hL.out.kept.mono λc _ hc=>⟨(HZI.out c hc).1,(HZI.out c hc).2.1⟩));have hvc9:wy.cell? ⟨vb,voff+kk,none⟩=some (.int .i64 L[kk]):=hL.out.kept.cell (p:=⟨vb,voff+kk,none⟩) (HZN.out vb hvz) hvc;have hv64:I64 L[kk]:=zOu.out.2 _ (List.getElem_mem hlt);have hkkk:L.take (kk+1)=L.take kk++[L[kk]]:=List.take_succ_eq_append_getElem hlt;have HKK:=hid (show(zH (λv st=>zAH ds a b k (zG a (xn:Int) (fi:Int) v) (zG b (yn:Int) (fi:Int) v) st) (L.take (kk+1)) st)=((zH (λv st=>zAH ds a b k (zG a (xn:Int) (fi:Int) v) (zG b (yn:Int) (fi:Int) v) st) (L.take kk) st).1++[(zAH ds a b k (zG a (xn:Int) (fi:Int) L[kk]) (zG b (yn:Int) (fi:Int) L[kk]) (zH (λv st=>zAH ds a b k (zG a (xn:Int) (fi:Int) v) (zG b (yn:Int) (fi:Int) v) st) (L.take kk) st).2).1],(zAH ds a b k (zG a (xn:Int) (fi:Int) L[kk]) (zG b (yn:Int) (fi:Int) L[kk]) (zH (λv st=>zAH ds a b k (zG a (xn:Int) (fi:Int) v) (zG b (yn:Int) (fi:Int) v) st) (L.take kk) st).2).2) from by rw[hkkk,zLC]);have HRI:=hid (HKI.out (L.take kk)).1;have HKL:=hid (show((zH (λv st=>zAH ds a b k (zG a (xn:Int) (fi:Int) v) (zG b (yn:Int) (fi:Int) v) st) (L.take kk) st).1).length =kk from by rw[zA6,List.length_take];omega);have HL:=hid hL.out;have zJL:=hid hvc9;(have hk1:((kk:Nat):Int)<(L.length:Int):=by omega);(have hk0:(0:Int)≤((kk:Nat):Int):=by omega);(have hk9:kk≤3000:=by have:=HLL.out.1;omega);clear hL hvc hvc9 hvl hvz hkkk;generalize (zH (λv st=>zAH ds a b k (zG a (xn:Int) (fi:Int) v) (zG b (yn:Int) (fi:Int) v) st) (L.take kk) st).1=kids at*;generalize (zH (λv st=>zAH ds a b k (zG a (xn:Int) (fi:Int) v) (zG b (yn:Int) (fi:Int) v) st) (L.take kk) st).2=s at*;generalize L[kk]=c at*;(go_upto_region 30 with fail);go_cut[180] from 163 to 221 (λv wx=>v= .bool (decide (p.kids≠[]∧p.fact=(fi:Int)))∧wy=wx)
          case first=>
           as_aux_lemma=>
            have n1:=HB9.out.p.at1;have n3:=HB9.out.p.at3;have nlv:=HB9.out.p.lt;by_cases kp:p.kids=[]
            ·(have e1:decide ((0:Int)<(p.kids.length:Int))=false:=by simp[kp]);(have e1':decide (0<p.kids.length)=false:=by simp[kp]);have HQ:=hid (show decide (p.kids≠[]∧p.fact=(fi:Int))=false from decide_eq_false λh=>h.1 kp);clear kp;go_wp2;go_meet;exact⟨congrArg Value.bool HQ.out.symm,rfl⟩
            ·(have e1:decide ((0:Int)<(p.kids.length:Int))=true:=by simp;exact List.length_pos_iff.2 kp);(have e1':decide (0<p.kids.length)=true:=by simp;exact List.length_pos_iff.2 kp);by_cases hf:p.fact=(fi:Int)
             ·(have e2:(p.fact==(fi:Int))=true:=by simp[hf]);have HQ:=hid (show decide (p.kids≠[]∧p.fact=(fi:Int))=true from decide_eq_true ⟨kp,hf⟩);clear kp hf;go_wp2;go_meet;exact⟨congrArg Value.bool HQ.out.symm,rfl⟩
             ·(have e2:(p.fact==(fi:Int))=false:=by simp[hf]);have HQ:=hid (show decide (p.kids≠[]∧p.fact=(fi:Int))=false from decide_eq_false λh=>hf h.2);clear kp hf;go_wp2;go_meet;exact⟨congrArg Value.bool HQ.out.symm,rfl⟩
          case rest=>
           obtain⟨rfl,rfl⟩:=hcut;(go_upto_if 180 with fail);go_cut[24] from 163 to 221 (λv wx=>v= .int .i64 (zG a (xn:Int) (fi:Int) c)∧Below wy.heap.size wy wx)
           case first=>
            as_aux_lemma=>
             by_cases hpa:(p.kids≠[]∧p.fact=(fi:Int))
             ·have zKT:=hid (show zG a (xn:Int) (fi:Int) c=p.kids.getD (nx p.cuts c) 0 from by unfold zG;rw[HPA.out.1,if_pos hpa]);have hI:=HIA.out hpa.1;have HNX:=hid (hI.nxL c);rw[decide_eq_true hpa];(have hjx:nx p.cuts c<p.kids.length:=by have h1:=zCs p.cuts c;have h2:=hI.len;omega);obtain⟨kb,koff,rfl,hkz,hkb,hkc⟩:=HPC.out.1.2.at_ hjx;have nk:=HKZ.out.cell (p:=⟨kb,koff+nx p.cuts c,none⟩) hkz hkc;have nkl:=lt_of_cell nk;(have hgd:p.kids.getD (nx p.cuts c) 0=p.kids[nx p.cuts c]:=by simp[List.getD_eq_getElem?_getD,hjx]);have HGD:=hid hgd;have zN:=hid (λW(hW:Below wy.heap.size wy W)=>zH3 Zi p _ c W (HPN.out.1.keep (HKZ.out.trans (.of_below hW))));rw[HNX.out]at zN;(have hj1:((nx p.cuts c:Nat):Int)<(p.kids.length:Int):=by omega);(have hj0:(0:Int)≤((nx p.cuts c:Nat):Int):=by omega);have n0:=HB9.out.p.at0;have n1:=HB9.out.p.at1;have n2:=HB9.out.p.at2;have n3:=HB9.out.p.at3;have nlv:=HB9.out.p.lt;have nv:=zJL.out;have nvl:=lt_of_cell nv;clear hpa hI hkb hkc hgd hkz;generalize p.kids[nx p.cuts c]=kx at*;generalize nx p.cuts c=jx at*;go_wp2
              go_region_held3(λw'=>w'.cell? ⟨w.heap.size+1+1+1,0,none⟩=some (.bool p.leaf)∧w'.cell? ⟨w.heap.size+1+1+1,1,none⟩=some (.int .i64 p.fact)∧w'.cell? ⟨w.heap.size+1+1+1,2,none⟩=some (.slice PU p.cuts.length pucap)∧w'.cell? ⟨w.heap.size+1+1+1,3,none⟩=some (.slice (some ⟨kb,koff,none⟩) p.kids.length pkcap)∧w'.cell? ⟨vb,voff+kk,none⟩=some (.int .i64 c)∧w'.cell? ⟨kb,koff+jx,none⟩=some (.int .i64 kx))
               (first|exact⟨p0,p1,p2,p3,p4,p5⟩|(refine⟨?_,?_,?_,?_,?_,?_⟩<;>go_keep))
               (first
                |(go_at_call 60;refine(zN.out _ (Below.refl _ _).drew).mono ?_;rintro e w9 ⟨rfl,hb9⟩;have hb9:Below wy.heap.size wy w9:=(Below.refl _ _).drew.trans hb9;have p0:=brd hb9 n0 nlv;have p1:=brd hb9 n1 nlv;have p2:=brd hb9 n2 nlv;have p3:=brd hb9 n3 nlv;have p4:=brd hb9 nv nvl;have p5:=brd hb9 nk nkl))
              have HQ9:=hid hb9;clear p0 p1 p2 p3 p4 p5 hb9 n0 n1 n2 n3 nlv nv nvl nk nkl zN;go_wp2;go_meet;exact⟨by rw[zKT.out,HGD.out],HQ9.out⟩
             ·have zKT:=hid (show zG a (xn:Int) (fi:Int) c=(xn:Int) from by unfold zG;rw[HPA.out.1,if_neg hpa]);rw[decide_eq_false hpa];clear hpa;go_wp2;go_meet;exact⟨by rw[zKT.out],Below.refl _ _⟩
           case rest=>
            obtain⟨rfl,hbz⟩:=hcut;replace HB9:=hid (HB9.out.on hbz);replace zJL:=hid (brd hbz zJL.out (lt_of_cell zJL.out));replace HKZ:=hid (HKZ.out.trans (.of_below hbz));replace HL:=hid (HL.out.below hbz);clear hbz;(rename World=>wz);(go_upto_region 32 with fail);go_cut[200] from 163 to 221 (λv wx=>v= .bool (decide (q.kids≠[]∧q.fact=(fi:Int)))∧wz=wx)
            case first=>
             as_aux_lemma=>
              have n1:=HB9.out.q.at1;have n3:=HB9.out.q.at3;have nlv:=HB9.out.q.lt;by_cases kp:q.kids=[]
              ·(have e1:decide ((0:Int)<(q.kids.length:Int))=false:=by simp[kp]);(have e1':decide (0<q.kids.length)=false:=by simp[kp]);have HQ:=hid (show decide (q.kids≠[]∧q.fact=(fi:Int))=false from decide_eq_false λh=>h.1 kp);clear kp;go_wp2;go_meet;exact⟨congrArg Value.bool HQ.out.symm,rfl⟩
              ·(have e1:decide ((0:Int)<(q.kids.length:Int))=true:=by simp;exact List.length_pos_iff.2 kp);(have e1':decide (0<q.kids.length)=true:=by simp;exact List.length_pos_iff.2 kp);by_cases hf:q.fact=(fi:Int)
               ·(have e2:(q.fact==(fi:Int))=true:=by simp[hf]);have HQ:=hid (show decide (q.kids≠[]∧q.fact=(fi:Int))=true from decide_eq_true ⟨kp,hf⟩);clear kp hf;go_wp2;go_meet;exact⟨congrArg Value.bool HQ.out.symm,rfl⟩
               ·(have e2:(q.fact==(fi:Int))=false:=by simp[hf]);have HQ:=hid (show decide (q.kids≠[]∧q.fact=(fi:Int))=false from decide_eq_false λh=>hf h.2);clear kp hf;go_wp2;go_meet;exact⟨congrArg Value.bool HQ.out.symm,rfl⟩
            case rest=>
             obtain⟨rfl,rfl⟩:=hcut;(go_upto_if 200 with fail);go_cut[25] from 163 to 221 (λv wx=>v= .int .i64 (zG b (yn:Int) (fi:Int) c)∧Below wz.heap.size wz wx)
             case first=>
              as_aux_lemma=>
               by_cases hpa:(q.kids≠[]∧q.fact=(fi:Int))
               ·have zKT:=hid (show zG b (yn:Int) (fi:Int) c=q.kids.getD (nx q.cuts c) 0 from by unfold zG;rw[HPA.out.2,if_pos hpa]);have hI:=HIB.out hpa.1;have HNX:=hid (hI.nxL c);rw[decide_eq_true hpa];(have hjx:nx q.cuts c<q.kids.length:=by have h1:=zCs q.cuts c;have h2:=hI.len;omega);obtain⟨kb,koff,rfl,hkz,hkb,hkc⟩:=HPC.out.2.2.at_ hjx;have nk:=HKZ.out.cell (p:=⟨kb,koff+nx q.cuts c,none⟩) hkz hkc;have nkl:=lt_of_cell nk;(have hgd:q.kids.getD (nx q.cuts c) 0=q.kids[nx q.cuts c]:=by simp[List.getD_eq_getElem?_getD,hjx]);have HGD:=hid hgd;have zN:=hid (λW(hW:Below wz.heap.size wz W)=>zH3 Zi q _ c W (HPN.out.2.keep (HKZ.out.trans (.of_below hW))));rw[HNX.out]at zN;(have hj1:((nx q.cuts c:Nat):Int)<(q.kids.length:Int):=by omega);(have hj0:(0:Int)≤((nx q.cuts c:Nat):Int):=by omega);have n0:=HB9.out.q.at0;have n1:=HB9.out.q.at1;have n2:=HB9.out.q.at2;have n3:=HB9.out.q.at3;have nlv:=HB9.out.q.lt;have nv:=zJL.out;have nvl:=lt_of_cell nv;clear hpa hI hkb hkc hgd hkz;generalize q.kids[nx q.cuts c]=kx at*;generalize nx q.cuts c=jx at*;go_wp2
                go_region_held3(λw'=>w'.cell? ⟨w.heap.size+1+1+1+1,0,none⟩=some (.bool q.leaf)∧w'.cell? ⟨w.heap.size+1+1+1+1,1,none⟩=some (.int .i64 q.fact)∧w'.cell? ⟨w.heap.size+1+1+1+1,2,none⟩=some (.slice QU q.cuts.length qucap)∧w'.cell? ⟨w.heap.size+1+1+1+1,3,none⟩=some (.slice (some ⟨kb,koff,none⟩) q.kids.length qkcap)∧w'.cell? ⟨vb,voff+kk,none⟩=some (.int .i64 c)∧w'.cell? ⟨kb,koff+jx,none⟩=some (.int .i64 kx))
                 (first|exact⟨p0,p1,p2,p3,p4,p5⟩|(refine⟨?_,?_,?_,?_,?_,?_⟩<;>go_keep))
                 (first
                  |(go_at_call 60;refine(zN.out _ (Below.refl _ _).drew).mono ?_;rintro e w9 ⟨rfl,hb9⟩;have hb9:Below wz.heap.size wz w9:=(Below.refl _ _).drew.trans hb9;have p0:=brd hb9 n0 nlv;have p1:=brd hb9 n1 nlv;have p2:=brd hb9 n2 nlv;have p3:=brd hb9 n3 nlv;have p4:=brd hb9 nv nvl;have p5:=brd hb9 nk nkl))
                have HQ9:=hid hb9;clear p0 p1 p2 p3 p4 p5 hb9 n0 n1 n2 n3 nlv nv nvl nk nkl zN;go_wp2;go_meet;exact⟨by rw[zKT.out,HGD.out],HQ9.out⟩
               ·have zKT:=hid (show zG b (yn:Int) (fi:Int) c=(yn:Int) from by unfold zG;rw[HPA.out.2,if_neg hpa]);rw[decide_eq_false hpa];clear hpa;go_wp2;go_meet;exact⟨by rw[zKT.out],Below.refl _ _⟩
             case rest=>
              obtain⟨rfl,hbz⟩:=hcut;replace HB9:=hid (HB9.out.on hbz);replace zJL:=hid (brd hbz zJL.out (lt_of_cell zJL.out));replace HKZ:=hid (HKZ.out.trans (.of_below hbz));replace HL:=hid (HL.out.below hbz);clear hbz;rename World=>wv
              have zN:=hid (HIH.out (zG a (xn:Int) (fi:Int) c) (zG b (yn:Int) (fi:Int) c) s M F' Z' Zi wv (zOt.out c) (HM.out c) HRI.out HL.out.mem HL.out.dnm (HNA.out.keep HKZ.out) (HNB.out.keep HKZ.out) (HDS.out.keep HKZ.out) (λc' hc=>by
               have h:=HZI.out c' hc;have h8:=HBW.out.size
               exact⟨(HL.out.off (by omega) h.1).1,h.2.1,by have:=HL.out.kept.size;omega⟩) (HL.out.apart zRR.out))
              have a0:=HB9.out.a.at0;have alv:=HB9.out.a.lt;have b0:=HB9.out.b.at0;have blv:=HB9.out.b.lt;have dd0:=HB9.out.d.at0;have ddl:=HB9.out.d.lt;generalize zAH ds a b k (zG a (xn:Int) (fi:Int) c) (zG b (yn:Int) (fi:Int) c) s=r at*;generalize zG a (xn:Int) (fi:Int) c=su at*;generalize zG b (yn:Int) (fi:Int) c=sv at*;(go_wp2_with fail);refine zN.out.mono ?_;intro e w11 hp;have HP:=hid hp;obtain rfl:=hp.1;clear hp zN a0 alv b0 blv dd0 ddl
              have hown11:w11.ownsRow w8.heap.size 3 1 vk kids.length (kids.map (.int .i64)):=zl HL.out.own HP.out.2.2.2 (λx hx=>⟨(HL.out.row x hx).1,λi hi e=>by
               have h1:=(HL.out.own.lt x hx).1;have h2:=(zRR.out.r i hi).2.2
               omega⟩)
              have hs11:w8.heap.size≤w11.heap.size:=Nat.le_trans HL.out.kept.size HP.out.2.2.2.size;have hkl:=HKL.out;go_wp2_with(at_builtin;refine zf rfl (.tmp 211) (.tmp 220) _ rfl Tryz.underlying31 Tryz.eInt rfl (hown11.alloc _) rfl (news:=[.int .i64 r.1]) rfl (one_cell (by simp)) (by simp[Value.oneCell']) (by unfold maxLen;omega) (by omega) (by simp;omega) ?_;intro v5 w12 hown5 hg5 hat5);have zRL:=hid (HL.out.step zRR.out HP.out hg5 hown5 hat5);clear hown5 hg5 hat5 hown11 hs11 hkl;go_wp2;go_roundw
              case rel=>
               obtain⟨F2,Z2,h⟩:=zRL.out;refine⟨kk+1,_,F2,Z2,by omega,by go_num,rfl,?_⟩;rw[HKK.out];exact hid h
              case measure=>simp[intOf];omega
         ·(obtain rfl:kk=L.length:=by omega);rw[List.take_length]at hL;have hlk:=zA6 (f:=(λv st=>zAH ds a b k (zG a (xn:Int) (fi:Int) v) (zG b (yn:Int) (fi:Int) v) st)) L st;have hki:=HKI.out L;have hall:=HSL.out _ hki.1
          have hne:(zH (λv st=>zAH ds a b k (zG a (xn:Int) (fi:Int) v) (zG b (yn:Int) (fi:Int) v) st) L st).1≠[]:=λe=>by
           have h:=HLL.out.2;rw[e]at hlk;exact h (List.length_eq_zero_iff.1 hlk.symm)
          have hl9:=HLL.out.1;have zV9:=hid hki.2;clear hki;generalize (zH (λv st=>zAH ds a b k (zG a (xn:Int) (fi:Int) v) (zG b (yn:Int) (fi:Int) v) st) L st).1=kids at*;generalize (zH (λv st=>zAH ds a b k (zG a (xn:Int) (fi:Int) v) (zG b (yn:Int) (fi:Int) v) st) L st).2=s at*;have zXS:=HFI.out.2.1;have hdlen:=HDL.out
          have zDn:=hid (zKo M s.all F' Z' (λ_=>True) (.slice SV L.length scap) vk (fi:Int) L kids wr hL.out.mem ((zOu.out.keep (hL.out.kept.mono λc _ hc=>HZN.out c hc)).mono λ_ _=>trivial) ((zCl hL.out.own (λy hy=>by
           have h:=zV9.out y hy;have h1:=h.1;have h2:=h.2
           constructor<;>omega) (by omega)).mono λ_ _=>trivial) (by constructor<;>omega) hlk.symm hne (by omega) (by omega))
          clear hlk hne hall hl9 zV9 hdlen;(go_wp2_with fail);refine zDn.out.mono ?_;intro e w13 hp;have hf0:=hL.out.finish zRR.out hp;obtain rfl:=hp.1
          have HF:=hid (show(∃F2 Z2,RkS w13 M (zb s.all (fi:Int) L kids).2 F2 Z2∧(∀c,F2 c->F c∨w.heap.size≤c)∧∀c,Z2 c->Z c∨w.heap.size≤c)∧DnM w13 DB R a.length b.length s.done∧zA (λc=>¬F c∧∀i,i<a.length->c≠R i) w w13 from by
           obtain⟨⟨F2,Z2,h1,h2,h3⟩,h4,h5⟩:=hf0;have h8:=HBW.out.size
           exact⟨⟨F2,Z2,h1,λc hc=>(h2 c hc).imp id (λh=>by omega),λc hc=>(h3 c hc).imp id (λh=>by omega)⟩,h4,(zA.of_below HBW.out).trans h5⟩)
          clear hp hf0 zDn;generalize zb s.all (fi:Int) L kids=o at*;have dO:w13.cell? ⟨DB,xn,none⟩=some (.slice (some ⟨R xn,0,none⟩) b.length b.length):=HF.out.2.1.outer xn HKX.out.2.2.1;have dI:=HF.out.2.1.at_ HKX.out.2.2.1 HKX.out.2.2.2;have dF:w13.frozen? ⟨R xn,yn,none⟩=false:=(HF.out.2.1.inner xn HKX.out.2.2.1).frozen yn;obtain⟨dlv,rlv⟩:=HF.out.2.1.live HKX.out.2.2.1;have hor:=HOR.out;obtain⟨ho0,ho1⟩:=hor;have HFS:=hid (zHc (v:=o.1+1) HKX.out.2.2.1 HKX.out.2.2.2 HF.out.1 HF.out.2.1 HF.out.2.2 HAP.out (by omega) (by omega));go_wp2;go_ret;rw[HR.out];exact⟨rfl,HFS.out⟩
end Go.Proofs.YtonmdbdopchkaaaGreatDoor
