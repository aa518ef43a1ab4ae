/- Texts W44 W61 W63 W70 W73. -/
import Derived.Test.YthpocbeoanipbaaGreatDoorM28
import Derived.Test.YthpocbeoanipbaaGreatDoorM27
set_option linter.all false
namespace Go.Proofs.YthpocbeoanipbaaGreatDoor
open Go.RowKit Go.Proofs.Tryz
set_option maxHeartbeats 8000000
set_option maxRecDepth 100000
variable{F Z:zE}{b:Nat}{ds:List zC}{va vb vd:Value}{w w6:World}
section
open Go.Shelf
theorem zW.len{P:Program}{κ:Type}{enc:κ->Value}{c:List (κ × Value)}{t k e:TypeId}(h:zW enc w b c)(j:P.underlying t=some (.map k e))(ty:TypeId):(Builtin.len_ #[t] ty #[.map (some b)]).run P w= .ok (.int .i64 (c.length:Nat)) w:=by
 obtain⟨f,a,g,i⟩:=h;have d:f.size=c.length:=by have:=congrArg List.length i;simpa using this
 rw[<-d];simp[Builtin.len_,run_underlying j,MapKept.run_getObj_map g,goInt,Result.andThen]
theorem zMT(x:ByteArray)(v:Value):∀l:List (ByteArray × Value),(zAU l x v).map (·.1)=if(l.map (·.1)).any (λk=>decide (k=x))=true then l.map (·.1)else l.map (·.1)++[x]
 |[]=>by simp[zAU]
 |p::r=>by
  have ih:=zMT x v r;unfold zAU;rw[List.map_cons,List.any_cons];by_cases h:x=p.1
  ·rw[if_pos h,if_pos (by simp[h])];rfl
  ·rw[if_neg h,List.map_cons,ih,decide_eq_false (show ¬p.1=x from λe=>h e.symm),Bool.false_or];split<;>rfl
theorem zJv:∀(l:List ByteArray)(a:List (ByteArray × Value)),(zBq a l).map (·.1)=l.foldl (λks n=>if ks.any (λk=>decide (k=n))=true then ks else ks++[n]) (a.map (·.1))
 |[],_=>rfl
 |n::l,a=>by
  unfold zBq;rw[List.foldl_cons,List.foldl_cons,<-zMT n (.bool true) a];exact zJv l _
theorem zNC(f:Fm):(zBq [] (zA0 f)).length =zDj f:=by
 have:=congrArg List.length (zJv (zA0 f) []);rw[List.length_map]at this;rw[this];rfl
def bMk:Obj:= .cells #[.slice none 0 0,.map none] 174
def bMv(n:Nat):Obj:= .cells #[.pointer (some ⟨n,0,none⟩)] 170
def bNv(n:Nat):Obj:= .cells #[.map (some (n+1+1))] 154
def bFv:Obj:= .cells #[.bool false] 4
def GV.of(n d:Nat):GV:=⟨n+1,n+1+1+1+1,d,n+1+1+1,n+1+1+1+1+1,n,n+1+1⟩
def bGv(n d:Nat):Obj:= .cells #[(GV.of n d).fn] 165
def zHQ(w:World)(d:Nat):World:=(((((w.alloc bMk).alloc (bMv w.heap.size)).alloc (.map #[] 0)).alloc (bNv w.heap.size)).alloc bFv).alloc (bGv w.heap.size d)
theorem zQC(w:World)(d:Nat):(zHQ w d).heap.size =w.heap.size+6:=by unfold zHQ;simp
theorem zJw(w:World)(d:Nat):Bw w (zHQ w d):=
 (((((zF w _).alloc (by simp) _).alloc (by simp;omega) _).alloc (by simp;omega) _).alloc (by simp;omega) _).alloc (by simp;omega) _
theorem zTO{d:Nat}(f:One w d vd):GrW (GV.of w.heap.size d) vd (zHQ w d) ⟨[],[],false⟩ (λb=>b=w.heap.size) (λ_=>False):=by
 have c:=f.lt;have a:=zJw w d
 refine⟨⟨_,((((Blk.new' (w.alloc bMk) 170 #[.pointer (some ⟨w.heap.size,0,none⟩)] (n:=w.heap.size+1) (by simp)).alloc _).alloc _).alloc _).alloc _⟩,f.below a c,
  ⟨_,(((Blk.new' (((w.alloc bMk).alloc (bMv w.heap.size)).alloc (.map #[] 0)) 154 #[.map (some (w.heap.size+1+1))] (n:=w.heap.size+1+1+1) (by simp)).alloc _).alloc _)⟩,
  ⟨_,Blk.new' (((((w.alloc bMk).alloc (bMv w.heap.size)).alloc (.map #[] 0)).alloc (bNv w.heap.size)).alloc bFv) _ #[(GV.of w.heap.size d).fn] (n:=w.heap.size+1+1+1+1+1) (by simp)⟩,
  ⟨_,(Blk.new' ((((w.alloc bMk).alloc (bMv w.heap.size)).alloc (.map #[] 0)).alloc (bNv w.heap.size)) 4 #[.bool false] (n:=w.heap.size+1+1+1+1) (by simp)).alloc _⟩,?_,?_,?_,?_,?_,?_,?_,?_⟩
 ·exact(MkS.new w).below (w':=zHQ w d) (((((zF (w.alloc bMk) _).alloc (by simp) _).alloc (by simp) _).alloc (by simp) _).alloc (by simp) _)
 ·have g:=((zW.made ((w.alloc bMk).alloc (bMv w.heap.size)) encS).alloc (bNv w.heap.size)).alloc bFv |>.alloc (bGv w.heap.size d)
  have e:((w.alloc bMk).alloc (bMv w.heap.size)).heap.size =w.heap.size+1+1:=by simp
  rw[e]at g;exact g
 ·intro b a;refine⟨λe=> ?_,?_,?_⟩
  ·subst e;rcases a with a|a|a|a<;>(unfold GV.of at a;simp only at a;omega)
  ·show b≠w.heap.size+1+1;rcases a with a|a|a|a<;>(unfold GV.of at a;simp only at a;omega)
  ·show b≠w.heap.size+1+1+1+1;rcases a with a|a|a|a<;>(unfold GV.of at a;simp only at a;omega)
 ·show ¬(w.heap.size+1+1+1+1=w.heap.size);omega
 ·show ¬(w.heap.size+1+1=w.heap.size);omega
 ·show w.heap.size+1+1+1+1≠w.heap.size+1+1;omega
 ·exact λh=>h
 ·exact λh=>h
theorem zFB(Z:zE)(w:World):z8 Z w (.slice none 0 0) []:=⟨none,0,rfl,Nat.le_refl _,by omega,by simp,trivial⟩
theorem zTP(Zf Zd:zE)(vd:Value)(f:Fm)(cs:List Value)(ds:List zC)(w:World)(hf:FmR Zf w f cs)(b2:∀b,Zf b->b<w.heap.size)(hd:Facts Zd w vd ds)(bs:∀b,Zd b->b<w.heap.size)
  (b0:zG f<=4000000)(bp:zAD w.heap.size w):
  Calls prog 71 #[.agg cs.toArray,.agg #[vd]] w (zLR (λ_=>False) (zC1 ds f) w):=by
 have eg:=Tryz.egBuild1;have b9:= @run_makeMap prog;have HF:=hid hf;have HD:=hid hd;obtain⟨A,Q,rfl⟩:=FmR.form hf;obtain⟨D,s,rfl,-,-,-⟩:=hd.open_
 have HU:=hid (show zC1 ds f=(if zN ds=false\/zA5 ds f≠0 then([],1)else if 24<zDj f then([],2)else
  if(zu ds 0 (zU ⟨#[]⟩ 0 f) ⟨[],[],false⟩).2.full =true then([],2)else if 4000<(zA8 ds (zu ds 0 (zU ⟨#[]⟩ 0 f) ⟨[],[],false⟩).2.all (zu ds 0 (zU ⟨#[]⟩ 0 f) ⟨[],[],false⟩).1).length then([],2)
  else(zA8 ds (zu ds 0 (zU ⟨#[]⟩ 0 f) ⟨[],[],false⟩).2.all (zu ds 0 (zU ⟨#[]⟩ 0 f) ⟨[],[],false⟩).1,0)) from rfl)
 have a:=((Blk.new w 40 #[.int .i64 f.op,.string f.name,.int .i64 f.cmp,.int .i64 f.num,.slice A f.kids.length Q]).alloc (.cells #[.slice D ds.length s] 24)).alloc (.cells #[.slice none 0 0] 83);have j:=(Blk.new' (w.alloc (.cells #[.int .i64 f.op,.string f.name,.int .i64 f.cmp,.int .i64 f.num,.slice A f.kids.length Q] 40)) 24 #[.slice D ds.length s] (n:=w.heap.size+1) (by simp)).alloc (.cells #[.slice none 0 0] 83);have c:=Blk.new' ((w.alloc (.cells #[.int .i64 f.op,.string f.name,.int .i64 f.cmp,.int .i64 f.num,.slice A f.kids.length Q] 40)).alloc (.cells #[.slice D ds.length s] 24)) 83 #[.slice none 0 0] (n:=w.heap.size+1+1) (by simp);have a3:=((zF w (.cells #[.int .i64 f.op,.string f.name,.int .i64 f.cmp,.int .i64 f.num,.slice A f.kids.length Q] 40)).alloc (by simp) (.cells #[.slice D ds.length s] 24)).alloc (by simp;omega) (.cells #[.slice none 0 0] 83);have HV:=hid (zDB Zd (.slice D ds.length s) ds _ (hd.keep (.of_below a3)));have HB:=hid (And.intro a (And.intro j (And.intro c a3)));clear a j c a3 hf hd;go_enter func71,ntmps71
 go_wp2_with fail
 refine HV.out.mono ?_;rintro e w1 ⟨rfl,ab⟩;have a:=HB.out.1.below ab HB.out.1.lt;have j:=HB.out.2.1.below ab HB.out.2.1.lt;have c:=HB.out.2.2.1.below ab HB.out.2.2.1.lt;have d:=HB.out.2.2.2.trans (ab.mono HB.out.2.2.2.size);clear ab HB HV;by_cases hv:zN ds=true
 ·have al:=hid hv;rw[hv]
  have HC:=hid (zH4 (λb=>(Zf b\/Zd b)) (.slice D ds.length s) ds f _ w1 (FmR.mono (λb g=>Or.inl g) _ _ (FmR.keep (.of_below d) _ _ HF.out)) ((HD.out.keep (.of_below d)).mono λb g=>Or.inr g) (by omega) (λb g=>by
   have:=d.size;rcases g with g|g
   ·have:=b2 b g;omega
   ·have:=bs b g;omega))
  have f0:=a.at0;have f1:=a.at1;have f2:=a.at2;have f3:=a.at3;have f4:=a.at4;have fl:=a.lt;have d0:=j.at0;have dl:=j.lt;have G:=hid (And.intro a (And.intro j (And.intro c d)));clear hv a j c d;go_wp2_with fail
  refine HC.out.mono ?_;rintro e w2 ⟨rfl,ad⟩;have a:=G.out.1.below ad G.out.1.lt;have j:=G.out.2.1.below ad G.out.2.1.lt;have c:=G.out.2.2.1.below ad G.out.2.2.1.lt;have d:=G.out.2.2.2.trans (ad.mono G.out.2.2.2.size);clear f0 f1 f2 f3 f4 fl d0 dl ad G HC;by_cases H:zA5 ds f=0
  ·have ba:=hid H;(have e1:(zA5 ds f !=(0:Int))=false:=by simp[H]);have aj:=hid (HU.out.trans (if_neg (by rintro(h|h);rw[al.out]at h;cases h;exact h H)));have bc:=hid (λ(W:World) hW hm=>zRh w2.heap.size (λb=>Zf b/\b<w.heap.size) (λh=>by have:=h.2;have:=d.size;omega) (zG f) f (Nat.le_refl _) [.int .i64 f.op,.string f.name,.int .i64 f.cmp,.int .i64 f.num,.slice A f.kids.length Q] [] W hW b0 hm);have ax:=FmR.keep (.of_below d) _ _ (FmR.live _ _ HF.out);have a2:=hid (And.intro (FmR.keep ((zA.refl _ _).alloc (.map #[] 0)) _ _ ax) (zW.made w2 encS));have f0:=a.at0;have f1:=a.at1;have f2:=a.at2;have f3:=a.at3;have f4:=a.at4;have fl:=a.lt;have x:=hid (And.intro a (And.intro j (And.intro c d)));clear H a j c d ax HU;(go_wp2_with fail);refine(bc.out _ a2.out.1 a2.out.2).mono ?_;rintro e u ⟨rfl,bo,ah⟩;(have bn:=λty=>bo.len (P:=prog) (t:=123) (k:=9) (e:=4) underlying123 ty);rw[zNC]at bn;have bq:=x.out.1.lt;have b1:=x.out.2.1.lt;have br:=x.out.2.2.1.lt;have a:=(x.out.1.alloc (.map #[] 0)).keep ah (by show w.heap.size≠_;omega);have j:=(x.out.2.1.alloc (.map #[] 0)).keep ah (by show w.heap.size+1≠_;omega);have c:=(x.out.2.2.1.alloc (.map #[] 0)).keep ah (by show w.heap.size+1+1≠_;omega);have d:Bw w u:=zd (x.out.2.2.2.alloc x.out.2.2.2.size _) ah x.out.2.2.2.size (by have:=x.out.2.2.2.size;simp;omega);clear f0 f1 f2 f3 f4 fl bo ah x a2 bc;by_cases ht:24<zDj f
   ·have HR:=hid (aj.out.trans (if_pos ht));(have e2:decide ((24:Int)<(zDj f:Int))=true:=by simp;omega);(have bx:decide (24<zDj f)=true:=by simp;omega);have r0:=c.cell 0;have rf:=c.frozen 0;have rl:=c.lt;have X:=hid (And.intro c d);clear ht a j c d aj;go_wp2;have r1:=(X.out.1.set_ 0 (.slice none 0 0)).cell 0;refine bodyPost_ret (v:= .tuple #[.agg #[.slice none 0 0],.int .i64 2]) (by simp[results,results71,go_sem,r1]) rfl ?_;rw[HR.out];exact⟨_,rfl,zFB _ _,X.out.2.setCell (p:=⟨w.heap.size+1+1,0,none⟩) (by show w.heap.size<=w.heap.size+1+1;omega) _⟩
   ·have ak:=hid (aj.out.trans (if_neg ht));(have e2:decide ((24:Int)<(zDj f:Int))=false:=by simp;omega);(have bx:decide (24<zDj f)=false:=by simp;omega);have Y:=hid (And.intro a (And.intro j (And.intro c d)));have bq:=a.lt;have b1:=j.lt;have br:=c.lt;clear ht a j c d aj;go_wp2;change Code.wp prog _ _ _ (zHQ u (w.heap.size+1));have b6:=zQC u (w.heap.size+1);have ao:=zJw u (w.heap.size+1);have a4:=zTO (vd:= .slice D ds.length s) ⟨_,Y.out.2.1⟩;generalize zHQ u (w.heap.size+1)=L at*;have au:=Y.out.1.below ao bq;have av:=Y.out.2.2.1.below ao br;have a0:=Y.out.2.2.2.size;have B:=Y.out.2.2.2.trans (ao.mono a0);have a1:=hid (And.intro a4 (And.intro av B))
    have U:=hid (λ(W:World)(hW:zA (λb=>b=u.heap.size+1+1+1+1+1\/b=w.heap.size) L W)=>(show W.cell? ⟨u.heap.size+1+1+1+1+1,0,none⟩=some (.func (.func 104) #[] #[.pointer (some ⟨u.heap.size+1,0,none⟩),.pointer (some ⟨u.heap.size+1+1+1+1,0,none⟩),.pointer (some ⟨w.heap.size+1,0,none⟩),.pointer (some ⟨u.heap.size+1+1+1,0,none⟩),.pointer (some ⟨u.heap.size+1+1+1+1+1,0,none⟩)])/\
     W.cell? ⟨w.heap.size,0,none⟩=some (.int .i64 f.op)/\W.cell? ⟨w.heap.size,1,none⟩=some (.string f.name)/\W.cell? ⟨w.heap.size,2,none⟩=some (.int .i64 f.cmp)/\W.cell? ⟨w.heap.size,3,none⟩=some (.int .i64 f.num)/\W.cell? ⟨w.heap.size,4,none⟩=some (.slice A f.kids.length Q) from by
      have ag:=au.keep hW (Or.inr rfl)
      exact⟨(a4.gv.keep hW (Or.inl rfl)).cell,ag.cell 0,ag.cell 1,ag.cell 2,ag.cell 3,ag.cell 4⟩))
    clear a4 au av B ao bn;refine zL 4 (λW=>zA (λb=>b=u.heap.size+1+1+1+1+1\/b=w.heap.size) L W) (by kernel_rfl) ?_;have hS:(λW=>zA (λb=>b=u.heap.size+1+1+1+1+1\/b=w.heap.size) L W) L.drew:=(zA.refl _ _).drew
    (refine tkS 0 ?_ hS ?_ ?_;rotate_left;intro w a5;obtain⟨h0,h1,h2,h3,h4,h5⟩:=U.out _ a5;go_simp;(try with_reducible rfl);simp only[nr])
    (refine tkS 1 ?_ hS ?_ ?_;rotate_left;intro w a5;obtain⟨h0,h1,h2,h3,h4,h5⟩:=U.out _ a5;go_simp;(try with_reducible rfl);simp only[nr])
    refine wS1 2 (λK hK=> ?_);(go_wp2_with fail);have M:=zHv ba.out
    have bi:zG f<=200:=by
     have h1:=ba.out;unfold zA5 at h1;split at h1
     ·omega
     ·rename_i hl;unfold zA9 at hl;simp at hl;omega
    have B:=a1.out.2.2;(have bl:∀Z0,zA Z0 L L.drew:=λZ0=>(zA.refl _ _).drew);refine(zNa ⟨#[]⟩ 0 ds (zG f) f (Nat.le_refl _) (by omega) (λb=>Zf b/\b<w.heap.size) _ L.drew (FmR.keep ((zA.of_below_lt B (λb _ g=>g.2)).trans (bl _)) _ _ (FmR.live _ _ HF.out)) M.2).mono ?_;rintro e R ⟨bf,rfl,aw,ar⟩;have o:Bw L R:=((Below.refl L.heap.size L).drew).trans ar;have b5:=o.size;have q:Bw w R:=B.trans (o.mono B.size)
    have bw:=hid (show zDb (GV.of u.heap.size (w.heap.size+1)) ds (λb=>Zd b/\b<w.heap.size) D s w.heap.size R ⟨[],[],false⟩ (λb=>b=u.heap.size) (λ_=>False) (λb=>((Zf b/\b<w.heap.size)\/L.heap.size<=b)/\b<R.heap.size) (zU ⟨#[]⟩ 0 f) bf from by
     have bm:∀b,b<w.heap.size\/L.heap.size<=b->(GV.of u.heap.size (w.heap.size+1)).kept (λb=>b=u.heap.size) b:=λb g=>⟨λe=>by subst e;omega,λe=>by unfold GV.of at e;simp only at e;omega,λe=>by unfold GV.of at e;simp only at e;omega⟩
     refine⟨a1.out.1.below o,FmR.live _ _ aw,λb g=>⟨bm b (by rcases g.1 with h|h;exact Or.inl h.2;exact Or.inr h),g.2⟩,
      (HD.out.keep (.of_below q)).mono (λb g=>⟨g,bs b g⟩),λb g=>⟨bm b (Or.inl g.2),by have:=g.2;have:=q.size;omega⟩,bp.on q,⟨q.size,λb g=>by subst g;exact a0,?_,?_⟩,
      zDz f M.2,Nat.le_trans (zIa f) bi,WSt.new,by simp[inn],al.out⟩
     ·show w.heap.size<=u.heap.size+1+1;omega
     ·show w.heap.size<=u.heap.size+1+1+1+1;omega)
    have V:=hid (zUV ds 0 (zU ⟨#[]⟩ 0 f) bf R ⟨[],[],false⟩ (λb=>b=u.heap.size) (λ_=>False) _ (by simp) (Nat.zero_le _) bw.out);have aa:zA (λb=>b=u.heap.size+1+1+1+1+1\/b=w.heap.size) L R:= .of_below o;have J:=hid (And.intro q (a1.out.2.1.below o (by omega)));have I:=hid (And.intro M.2 (show GInv ds ⟨[],[],false⟩ from⟨Good.nil ds,λp hp=>absurd hp (by simp)⟩));refine hK _ _ (Or.inr aa) ?_;clear hK K ar aw o q B bl M bi
    (try simp only[nr])
    refine wS1 3 (λK hK=> ?_);(go_wp2_with fail);refine V.out.mono ?_;intro e T O
    have aq:zA (λb=>b=u.heap.size+1+1+1+1+1\/b=w.heap.size) L T:=aa.trans (O.2.2.mono λb _ g=>by
     rcases g with rfl|rfl
     ·exact⟨by omega,by unfold GV.of;simp only;omega,by unfold GV.of;simp only;omega⟩
     ·exact⟨by omega,by unfold GV.of;simp only;omega,by unfold GV.of;simp only;omega⟩)
    have ap:=hid O;obtain rfl:=O.1;refine hK _ _ (Or.inr aq) ?_;clear hK K O V
    (try simp only[nr])
    refine wS1 4 (λK hK=> ?_);(go_wp2_with fail);refine hK _ _ (Or.inl rfl) ?_;clear hK K
    (try simp only[nr])
    refine wSd ?_ _;(have bk:=λh=>zJ9 al.out ds 0 (zU ⟨#[]⟩ 0 f) ⟨[],[],false⟩ (by simp) (Nat.zero_le _) (zDz f I.out.1) (zH6 f I.out.1) (λn hn=>zLU _ (zDz f I.out.1) n hn) I.out.2 h);have ca:=zUJ (rest:=ds) (i:=0) (f:=zU ⟨#[]⟩ 0 f) WSt.new (N:=4000+ds.length) (by simp[inn]) (Nat.le_refl _);have b8:=zBT al.out;generalize zu ds 0 (zU ⟨#[]⟩ 0 f) ⟨[],[],false⟩=r at*;have bv:=hid bk;obtain⟨-,⟨F',Z',F,bz,bg⟩,C⟩:=ap.out;have y:Blk T (w.heap.size+1+1) 83 #[.slice none 0 0]:=J.out.2.keep C ⟨by omega,by unfold GV.of;simp only;omega,by unfold GV.of;simp only;omega⟩;have ae:Bw w T:=J.out.1.trans ⟨C.os,C.tape,C.output,C.size,λb g=>C.block b (by have:=J.out.1.size;omega) ⟨by omega,by unfold GV.of;simp only;omega,by unfold GV.of;simp only;omega⟩⟩;have v0:T.cell? ⟨u.heap.size+1+1+1+1,0,none⟩=some (.bool r.2.full):=F.fv.cell;have a8:=F.fv.lt;have m0:T.cell? ⟨u.heap.size+1,0,none⟩=some (.pointer (some ⟨u.heap.size,0,none⟩)):=F.mv.cell;have a7:=F.mv.lt;unfold GV.of at a8 a7;simp only at a8 a7;have bb:=hid (And.intro F.mkr (λb g=>(by rcases bg b g with h|h;exact h.elim;have:=J.out.1.size;omega:w.heap.size+1+1<b/\w.heap.size<=b)));have E:=hid (And.intro y ae);have r0:=y.cell 0;have rf:=y.frozen 0;have rl:=y.lt;clear F bz bg C y ae hS aa aq ap bk
    cases m:r.2.full with
    |true=>
     rw[m]at v0;have HR:=hid (ak.out.trans (if_pos m));clear m ak;have X:=E;go_wp2;have r1:=(X.out.1.set_ 0 (.slice none 0 0)).cell 0;refine bodyPost_ret (v:= .tuple #[.agg #[.slice none 0 0],.int .i64 2]) (by simp[results,results71,go_sem,r1]) rfl ?_;rw[HR.out];exact⟨_,rfl,zFB _ _,X.out.2.setCell (p:=⟨w.heap.size+1+1,0,none⟩) (by show w.heap.size<=w.heap.size+1+1;omega) _⟩
    |false=>
     rw[m]at v0;have bd:=hid (ak.out.trans (if_neg (by rw[m];simp)));obtain⟨bj,ay⟩:=bv.out m;(have bh:(zA8 ds r.2.all r.1).length =(zB2 ds r.2.all r.1).length :=by unfold zA8;rw[List.length_map]);have bu:=hid (zLS ds r.2.all bj.good (by omega) u.heap.size F' Z' r.1 T ay.rng bb.out.1)
     have bt:=hid (show zC1 ds f=zCu ds r.2.all r.1 from by
      rw[bd.out];unfold zCu;rw[bh])
     clear m ak bd bj ay bh;(go_wp2_with fail);refine bu.out.mono ?_;rintro e b4 ⟨b3,rfl,az,ac⟩;have z:=E.out.1.below ac E.out.1.lt;have af:=E.out.2.trans (ac.mono E.out.2.size);clear r0 rf rl v0 a8 m0 a7;have r0:=z.cell 0;have rf:=z.frozen 0;have rl:=z.lt
     have ai:z8 (λb=>w.heap.size<=b/\b≠w.heap.size+1+1) b4 b3 (zCu ds r.2.all r.1).1:=az.mono λb g=>by
      have b7:=E.out.1.lt;rcases g with g|g
      ·have:=bb.out.2 b g;omega
      ·omega
     obtain⟨a9,Z,rfl,-⟩:=az;have HN:=hid (And.intro ai (And.intro z af));clear ai z af ac;go_wp2;have r1:=(HN.out.2.1.set_ 0 (.slice a9 (zCu ds r.2.all r.1).1.length Z)).cell 0;refine bodyPost_ret (v:= .tuple #[.agg #[.slice a9 (zCu ds r.2.all r.1).1.length Z],.int .i64 (zCu ds r.2.all r.1).2]) (by simp[results,results71,go_sem,r1]) rfl ?_;rw[bt.out];exact⟨_,rfl,(HN.out.1.keep ((zA.refl _ _).setCell (λ_ h=>h.2 rfl) _)).mono (λb g=>Or.inr g.1),HN.out.2.2.setCell (p:=⟨w.heap.size+1+1,0,none⟩) (by show w.heap.size<=w.heap.size+1+1;omega) _⟩
  ·(have e1:(zA5 ds f !=(0:Int))=true:=by simp[H]);have HR:=hid (HU.out.trans (if_pos (Or.inr H)));have r0:=c.cell 0;have rf:=c.frozen 0;have rl:=c.lt;have X:=hid (And.intro c d);clear H a j c d HU;go_wp2;have r1:=(X.out.1.set_ 0 (.slice none 0 0)).cell 0;refine bodyPost_ret (v:= .tuple #[.agg #[.slice none 0 0],.int .i64 1]) (by simp[results,results71,go_sem,r1]) rfl ?_;rw[HR.out];exact⟨_,rfl,zFB _ _,X.out.2.setCell (p:=⟨w.heap.size+1+1,0,none⟩) (by show w.heap.size<=w.heap.size+1+1;omega) _⟩
 ·have a6:zN ds=false:=by simpa using hv
  have HR:=hid (HU.out.trans (if_pos (Or.inl a6)));have r0:=c.cell 0;have rf:=c.frozen 0;have rl:=c.lt;have X:=hid (And.intro c d);rw[a6];clear hv a6 a j c d HU;go_wp2;have r1:=(X.out.1.set_ 0 (.slice none 0 0)).cell 0;refine bodyPost_ret (v:= .tuple #[.agg #[.slice none 0 0],.int .i64 1]) (by simp[results,results71,go_sem,r1]) rfl ?_;rw[HR.out];exact⟨_,rfl,zFB _ _,X.out.2.setCell (p:=⟨w.heap.size+1+1,0,none⟩) (by show w.heap.size<=w.heap.size+1+1;omega) _⟩
end
structure Dw (w0 w:World) (va vb vd:Value) (a b:List zB) (ds:List zC) (Z:zE):Prop where
 ab:Blk w w0.heap.size 83 #[va]
 bb:Blk w (w0.heap.size+1) 83 #[vb]
 db:Blk w (w0.heap.size+1+1) 24 #[vd]
 na:z8 Z w va a
 nb:z8 Z w vb b
 fs:Facts Z w vd ds
 below:Bw w0 w
 tab:zAD w.heap.size w
 zone:∀b,Z b->b<w.heap.size
theorem Dw.on{d w w':World}{a b:List zB}(h:Dw d w va vb vd a b ds Z)(c:Bw w w'):Dw d w' va vb vd a b ds Z:=
 ⟨h.ab.below c h.ab.lt,h.bb.below c h.bb.lt,h.db.below c h.db.lt,h.na.keep (.of_below c),h.nb.keep (.of_below c),h.fs.keep (.of_below c),h.below.trans (c.mono h.below.size),(h.tab.on c).mono c.size,λb e=>Nat.lt_of_lt_of_le (h.zone b e) c.size⟩
theorem Dw.start{a b:List zB}(e:z8 Z w va a)(f:z8 Z w vb b)(g:Facts Z w vd ds)(i:∀b,Z b->b<w.heap.size)(d:zAD w.heap.size w):
  Dw w (((w.alloc (.cells #[va] 83)).alloc (.cells #[vb] 83)).alloc (.cells #[vd] 24)) va vb vd a b ds Z:=by
 have c:=((zF w (.cells #[va] 83)).alloc (by simp) (.cells #[vb] 83)).alloc (by simp;omega) (.cells #[vd] 24);exact⟨((Blk.new w _ _).alloc _).alloc _,(Blk.new' (w.alloc (.cells #[va] 83)) _ _ (by simp)).alloc _,Blk.new' ((w.alloc (.cells #[va] 83)).alloc (.cells #[vb] 83)) _ _ (by simp),e.keep (.of_below c),f.keep (.of_below c),g.keep (.of_below c),c,(d.on c).mono c.size,λb h=>Nat.lt_of_lt_of_le (i b h) c.size⟩
theorem zQD(Z:zE)(va vb vd:Value)(a b:List zB)(ds:List zC)(w:World)(L:z8 Z w va a)(g:z8 Z w vb b)(M:Facts Z w vd ds)(P:∀b,Z b->b<w.heap.size)(q:zAD w.heap.size w)(N:zB3 ds a=false\/zB3 ds b=false):
  Calls prog 72 #[.agg #[va],.agg #[vb],.agg #[vd]] w λe w'=>e= .returned (.tuple #[.agg #[.slice none 0 0],.int .i64 1])/\Bw w w':=by
 obtain⟨G,i,rfl,-,-,-⟩:=L.open_;obtain⟨I,m,rfl,-,-,-⟩:=g.open_;obtain⟨D,f,rfl,-,-,-⟩:=M.open_;have c:=hid (Dw.start L g M P q);clear L g M P q;go_enter func72,ntmps72
 have d:=hid (Blk.new' (((w.alloc (.cells #[.slice G a.length i] 83)).alloc (.cells #[.slice I b.length m] 83)).alloc (.cells #[.slice D ds.length f] 24)) 83 #[.slice none 0 0] (n:=w.heap.size+1+1+1) (by simp));replace c:=hid (c.out.on ((zF _ (.cells #[.slice none 0 0] 83)).mono (Nat.le_refl _)));go_upto_region 1 with fail
 generalize (((w.alloc (.cells #[.slice G a.length i] 83)).alloc (.cells #[.slice I b.length m] 83)).alloc (.cells #[.slice D ds.length f] 24)).alloc (.cells #[.slice none 0 0] 83)=H at*;have t:=c.out.ab.at0;have u:w.heap.size<H.heap.size:=c.out.ab.lt;have x:=c.out.bb.at0;have y:w.heap.size+1<H.heap.size:=c.out.bb.lt;have z:=c.out.db.at0;have A:w.heap.size+1+1<H.heap.size:=c.out.db.lt;have B:=d.out.at0;have C:w.heap.size+1+1+1<H.heap.size:=d.out.lt;by_cases o:zB3 ds a=true
 ·have s:=hid o;have J:=hid (show zB3 ds b=false from by rcases N with h|h<;>first|exact h|(rw[o]at h;cases h));clear o N;have k:=hid (zEJ Z (.slice G a.length i) (.slice D ds.length f) a ds _ c.out.na c.out.fs c.out.tab);rw[s.out]at k;go_wp2_with fail
  refine k.out.mono ?_;rintro e j ⟨rfl,g⟩;replace c:=hid (c.out.on g);replace d:=hid (d.out.below g d.out.lt);clear g k t u x y z A B C;have t:=c.out.ab.at0;have u:w.heap.size<j.heap.size:=c.out.ab.lt;have x:=c.out.bb.at0;have y:w.heap.size+1<j.heap.size:=c.out.bb.lt;have z:=c.out.db.at0;have A:w.heap.size+1+1<j.heap.size:=c.out.db.lt;have B:=d.out.at0;have C:w.heap.size+1+1+1<j.heap.size:=d.out.lt;have O:j.frozen? ⟨w.heap.size+1+1+1,0,none⟩=false:=d.out.frozen 0;have k:=hid (zEJ Z (.slice I b.length m) (.slice D ds.length f) b ds _ c.out.nb c.out.fs c.out.tab);rw[J.out]at k;go_wp2_with fail
  refine k.out.mono ?_;rintro e E ⟨rfl,g⟩;replace c:=hid (c.out.on g);replace d:=hid (d.out.below g d.out.lt);clear g k t u x y z A B C O;have t:=c.out.ab.at0;have u:w.heap.size<E.heap.size:=c.out.ab.lt;have x:=c.out.bb.at0;have y:w.heap.size+1<E.heap.size:=c.out.bb.lt;have z:=c.out.db.at0;have A:w.heap.size+1+1<E.heap.size:=c.out.db.lt;have B:=d.out.at0;have C:w.heap.size+1+1+1<E.heap.size:=d.out.lt;have O:E.frozen? ⟨w.heap.size+1+1+1,0,none⟩=false:=d.out.frozen 0;have F:(E.setCell ⟨w.heap.size+1+1+1,0,none⟩ (.slice none 0 0)).cell? ⟨w.heap.size+1+1+1,0,none⟩=some (.slice none 0 0):=(d.out.set_ 0 _).cell 0;have K:=hid F;clear F;go_wp2_with fail
  exact bodyPost_ret (v:= .tuple #[.agg #[.slice none 0 0],.int .i64 1]) (by simp[results,results72,go_sem,K.out]) rfl ⟨rfl,(c.out.below.setCell (by simp;omega) _)⟩
 ·have s:=hid (show zB3 ds a=false from by simpa using o);clear o N;have k:=hid (zEJ Z (.slice G a.length i) (.slice D ds.length f) a ds _ c.out.na c.out.fs c.out.tab);rw[s.out]at k;go_wp2_with fail
  refine k.out.mono ?_;rintro e j ⟨rfl,g⟩;replace c:=hid (c.out.on g);replace d:=hid (d.out.below g d.out.lt);clear g k t u x y z A B C;have t:=c.out.ab.at0;have u:w.heap.size<j.heap.size:=c.out.ab.lt;have x:=c.out.bb.at0;have y:w.heap.size+1<j.heap.size:=c.out.bb.lt;have z:=c.out.db.at0;have A:w.heap.size+1+1<j.heap.size:=c.out.db.lt;have B:=d.out.at0;have C:w.heap.size+1+1+1<j.heap.size:=d.out.lt;have O:j.frozen? ⟨w.heap.size+1+1+1,0,none⟩=false:=d.out.frozen 0;have F:(j.setCell ⟨w.heap.size+1+1+1,0,none⟩ (.slice none 0 0)).cell? ⟨w.heap.size+1+1+1,0,none⟩=some (.slice none 0 0):=(d.out.set_ 0 _).cell 0;have K:=hid F;clear F;go_wp2_with fail
  exact bodyPost_ret (v:= .tuple #[.agg #[.slice none 0 0],.int .i64 1]) (by simp[results,results72,go_sem,K.out]) rfl ⟨rfl,(c.out.below.setCell (by simp;omega) _)⟩
structure AV where
 Dv:Nat
 Av:Nat
 Bv:Nat
 Fv:Nat
 Mv:Nat
 Gv:Nat
 M:Nat
 db:Nat
def AV.var(c:AV)(b:Nat):Prop:=b=c.Dv\/b=c.Av\/b=c.Bv\/b=c.Fv\/b=c.Mv\/b=c.Gv
def AV.fn(c:AV):Value:= .func (.func 109) #[] #[.pointer (some ⟨c.Dv,0,none⟩),.pointer (some ⟨c.Av,0,none⟩),.pointer (some ⟨c.Bv,0,none⟩),.pointer (some ⟨c.Fv,0,none⟩),.pointer (some ⟨c.Mv,0,none⟩),.pointer (some ⟨c.Gv,0,none⟩)]
abbrev AV.args(c:AV)(x y:Int):Array Value:=#[.int .i64 x,.int .i64 y,.pointer (some ⟨c.Dv,0,none⟩),.pointer (some ⟨c.Av,0,none⟩),.pointer (some ⟨c.Bv,0,none⟩),.pointer (some ⟨c.Fv,0,none⟩),.pointer (some ⟨c.Mv,0,none⟩),.pointer (some ⟨c.Gv,0,none⟩)]
def AV.kept(c:AV)(F:zE):zE:=λb=>¬F b/\b≠c.db
structure AnW (c:AV) (va vb vd:Value) (w:World) (st:ASt) (F Z:zE):Prop where
 dv:One w c.Dv (.map (some c.db))
 av:One w c.Av va
 bv:One w c.Bv vb
 fv:One w c.Fv vd
 mv:One w c.Mv (.pointer (some ⟨c.M,0,none⟩))
 gv:One w c.Gv c.fn
 mkr:MkS w c.M st.all F Z
 done:zW zE0 w c.db (kvA st.done)
 var:∀b,c.var b->c.kept F b
 dF:¬F c.db
 dZ:¬Z c.db
section anw
variable {c:AV} {va vb vd:Value} {w w' W:World} {st:ASt} {F Z F' Z':zE}
theorem AnW.keep(h:AnW c va vb vd w st F Z)(a:zA (λb=>F b\/Z b\/c.var b\/b=c.db) w w'):AnW c va vb vd w' st F Z:=by
 have v:∀b,c.var b->(λb=>F b\/Z b\/c.var b\/b=c.db) b:=λb d=>Or.inr (Or.inr (Or.inl d))
 exact⟨h.dv.keep a (v _ (Or.inl rfl)),h.av.keep a (v _ (Or.inr (Or.inl rfl))),h.bv.keep a (v _ (Or.inr (Or.inr (Or.inl rfl)))),h.fv.keep a (v _ (Or.inr (Or.inr (Or.inr (Or.inl rfl))))),
  h.mv.keep a (v _ (Or.inr (Or.inr (Or.inr (Or.inr (Or.inl rfl)))))),h.gv.keep a (v _ (Or.inr (Or.inr (Or.inr (Or.inr (Or.inr rfl)))))),h.mkr.keep (a.mono λb _ d=>d.imp id Or.inl),h.done.of_block (a.block c.db h.done.lt (Or.inr (Or.inr (Or.inr rfl)))),h.var,h.dF,h.dZ⟩
theorem AnW.below(h:AnW c va vb vd w st F Z)(a:Bw w w'):AnW c va vb vd w' st F Z:=h.keep (.of_below a)
theorem AnW.lt(h:AnW c va vb vd w st F Z):(∀b,c.var b->b<w.heap.size)/\c.db<w.heap.size:=
 ⟨λb a=>by rcases a with rfl|rfl|rfl|rfl|rfl|rfl;exact h.dv.lt;exact h.av.lt;exact h.bv.lt;exact h.fv.lt;exact h.mv.lt;exact h.gv.lt,h.done.lt⟩
theorem AnW.made(h:AnW c va vb vd w st F Z)(e:Bw w W){all:List zB}(j:MkS w' c.M all F' Z')(hF:∀b,F' b->F b\/W.heap.size<=b)(g:∀b,Z' b->Z b\/W.heap.size<=b)(f:zA (λb=>¬F b) W w'):AnW c va vb vd w' ⟨all,st.done⟩ F' Z':=by
 have d:=h.below e;have i:=h.lt;have k:=e.size;have v:=λb e=>(h.var b e).1
 refine⟨d.dv.keep f (v _ (Or.inl rfl)),d.av.keep f (v _ (Or.inr (Or.inl rfl))),d.bv.keep f (v _ (Or.inr (Or.inr (Or.inl rfl)))),d.fv.keep f (v _ (Or.inr (Or.inr (Or.inr (Or.inl rfl))))),
  d.mv.keep f (v _ (Or.inr (Or.inr (Or.inr (Or.inr (Or.inl rfl)))))),d.gv.keep f (v _ (Or.inr (Or.inr (Or.inr (Or.inr (Or.inr rfl)))))),j,
  d.done.of_block (f.block c.db d.done.lt h.dF),λb e=>⟨λa=> ?_,(h.var b e).2⟩,λa=> ?_,λa=> ?_⟩
 ·rcases hF b a with a|a
  ·exact(h.var b e).1 a
  ·have:=i.1 b e;omega
 ·rcases hF _ a with a|a
  ·exact h.dF a
  ·omega
 ·rcases g _ a with a|a
  ·exact h.dZ a
  ·omega
theorem AnW.setDone(h:AnW c va vb vd w st F Z){d:List ((Int × Int) × Int)}(g:zW zE0 w' c.db (kvA d))(f:zA (λb=>b≠c.db) w w'):AnW c va vb vd w' ⟨st.all,d⟩ F Z:=by
 have v:=λb a=>(h.var b a).2
 exact⟨h.dv.keep f (v _ (Or.inl rfl)),h.av.keep f (v _ (Or.inr (Or.inl rfl))),h.bv.keep f (v _ (Or.inr (Or.inr (Or.inl rfl)))),h.fv.keep f (v _ (Or.inr (Or.inr (Or.inr (Or.inl rfl))))),
  h.mv.keep f (v _ (Or.inr (Or.inr (Or.inr (Or.inr (Or.inl rfl)))))),h.gv.keep f (v _ (Or.inr (Or.inr (Or.inr (Or.inr (Or.inr rfl)))))),h.mkr.keep (f.mono λb _ a e=>by subst e;rcases a with a|a;exact h.dF a;exact h.dZ a),g,h.var,h.dF,h.dZ⟩
end anw
def zIN(c:AV)(va vb vd:Value)(w:World)(F Z:zE)(r:Int × ASt)(e:Ending)(w':World):Prop:=
 e= .returned (.int .i64 r.1)/\(∃F' Z',AnW c va vb vd w' r.2 F' Z'/\(∀b,F' b->F b\/w.heap.size<=b)/\(∀b,Z' b->Z b\/w.heap.size<=b))/\zA (c.kept F) w w'
structure zEn (c:AV) (va vb vd:Value) (a b:List zB) (ds:List zC) (Zn:zE) (B0:Nat) (w:World) (st:ASt) (F Z:zE):Prop where
 mem:AnW c va vb vd w st F Z
 na:z8 Zn w va a
 nb:z8 Zn w vb b
 fs:Facts Zn w vd ds
 off:∀x,Zn x->c.kept F x/\x<w.heap.size
 tab:zAD B0 w
 base:B0<=w.heap.size/\(∀x,F x->B0<=x)/\B0<=c.db
 wst:zG0 st
 len:inn st.all<=4000+ds.length
 ga:zT ds a
 gb:zT ds b
section anin
variable {c:AV} {va vb vd:Value} {a b:List zB} {ds:List zC} {Zn:zE} {B0:Nat} {w w' W:World} {st:ASt} {F Z:zE}
theorem zEn.all_len(h:zEn c va vb vd a b ds Zn B0 w st F Z):st.all.length<=4062:=by
 have d:=h.wst.tab.len;have e:=h.len;have f:=zBT h.ga.dom;omega
theorem zEn.belowB(h:zEn c va vb vd a b ds Zn B0 w st F Z){W:World}(d:zA (c.kept F) w W):Below B0 w W:=
 ⟨d.os,d.tape,d.output,d.size,λb f=>d.block b (by have:=h.base.1;omega) ⟨λe=>by have:=h.base.2.1 b e;omega,by have:=h.base.2.2;omega⟩⟩
theorem zEn.tabAt(h:zEn c va vb vd a b ds Zn B0 w st F Z){W:World}(d:zA (c.kept F) w W):zAD W.heap.size W:=
 (h.tab.on (h.belowB d)).mono (by have:=h.base.1;have:=d.size;omega)
theorem zEn.node(h:zEn c va vb vd a b ds Zn B0 w st F Z)(l:Bool){W:World}(d:Bw w W):
  Calls prog 100 #[.pointer (some ⟨c.M,0,none⟩),.agg #[.bool l,.int .i64 0,.slice none 0 0,.slice none 0 0]] W (zCW W c.M F (λb=>Z b\/False) (zo st.all ⟨l,0,[],[]⟩)):=
 zGv c.M st.all F Z (λ_=>False) ⟨l,0,[],[]⟩ [.bool l,.int .i64 0,.slice none 0 0,.slice none 0 0] W (h.mem.mkr.below d) (zNB W F l) (by have:=h.all_len;omega) (h.tabAt (.of_below d))
theorem zVI{W:World}{l:Bool}{e:Ending}(h:AnW c va vb vd w st F Z)(a:Bw w W)(i:zCW W c.M F (λb=>Z b\/False) (zo st.all ⟨l,0,[],[]⟩) e w'):
  zIN c va vb vd w F Z ((zo st.all ⟨l,0,[],[]⟩).1,⟨(zo st.all ⟨l,0,[],[]⟩).2,st.done⟩) e w':=by
 obtain⟨he,⟨F',g,d⟩,f⟩:=i;have j:=a.size;refine⟨he,⟨F',_,h.made a g d (λb a=>a.imp id λh=>h.elim) f,λb a=>(d b a).imp id λh=>by omega,λb a=>a.imp id λh=>h.elim⟩,(zA.of_below a).trans (f.mono λb _ a=>a.1)⟩
theorem Tryz.keyP:zEd prog 185 zE0:=by
 obtain⟨i,a⟩:=info_of_underlying underlying3;exact zSV underlying185 underlying3 a (by kernel_rfl) (λw b x=>by unfold zE0;kernel_rfl)
theorem Tryz.lookP{w:World}{b:Nat}{d:List ((Int × Int) × Int)}(h:zW zE0 w b (kvA d))(x y:Int):
  (Instr.lookup 183 (.map (some b)) (.agg #[.int .i64 x,.int .i64 y]) true).run prog w= .ok (.tuple #[(match kvI d (x,y)with|some v=> .int .i64 v|none=> .int .i64 0),.bool (kvI d (x,y)).isSome]) w:=by
 have a:=h.look Tryz.keyP (t:=183) (e:=3) underlying183 (Tryz.zeroInt w) (x,y) true;rw[zQg,if_pos rfl]at a;refine Eq.trans a ?_;cases kvI d (x,y)<;>rfl
end anin
structure AnL (c:AV) (va vb vd:Value) (w6 wr:World) (F Z:zE) (st':ASt) (kids:List Int) (vk:Value) (F' Z':zE):Prop where
 own:wr.ownsRow w6.heap.size 3 1 vk kids.length (kids.map (.int .i64))
 row:∀b,vk.ownBlock=some b->c.kept F' b/\¬Z' b/\¬c.var b
 mem:AnW c va vb vd wr st' F' Z'
 hF:∀b,F' b->F b\/w6.heap.size<=b
 hZ:∀b,Z' b->Z b\/w6.heap.size<=b
 kept:zA (c.kept F) w6 wr
theorem AnL.start{c:AV}{st:ASt}(h:AnW c va vb vd w6 st F Z):AnL c va vb vd w6 w6 F Z st [] (.slice none 0 0) F Z:=
 ⟨World.ownsRow_nil _ _ _ _,λb a=>(by cases a),h,λb a=>Or.inl a,λb a=>Or.inl a,zA.refl _ _⟩
theorem zF4{c:AV}{F d:zE}{n m:Nat}(h:∀b,d b->F b\/n<=b)(e:c.kept F b)(f:b<m)(g:m<=n):c.kept d b:=
 ⟨λa=>by
  rcases h b a with a|a
  ·exact e.1 a
  ·omega,e.2⟩
theorem AnL.step{c:AV}{J wr N u n:World}{F Z K Z':zE}{I:ASt}{kids:List Int}{t A:Value}{r:Int × ASt}{e:Ending}{o:Obj}(h:AnL c va vb vd J wr F Z I kids t K Z')(f:Bw wr N)
  (T:zIN c va vb vd N K Z' r e u)(Q:(u.alloc o).grownBy n t.ownBlock)(R:n.ownsRow J.heap.size 3 1 A (kids.length+1) (kids.map (.int .i64)++[.int .i64 r.1]))(C:A.ownBlock=t.ownBlock\/A.ownBlock=some (u.alloc o).heap.size):
  ∃j m,AnL c va vb vd J n F Z r.2 (kids++[r.1]) A j m:=by
 obtain⟨-,⟨j,m,D,q,s⟩,g⟩:=T;have E:=f.size;have V:=g.size;have v:=D.lt;have H:∀b,t.ownBlock=some b->b<wr.heap.size:=λb a=>(h.own.lt b a).2
 have x:∀b,t.ownBlock=some b->c.kept j b/\¬m b/\¬c.var b:=λb a=>by
  have B:=h.row b a;have O:=H b a;refine⟨zF4 q B.1 O E,λi=> ?_,B.2.2⟩;rcases s b i with i|i
  ·exact B.2.1 i
  ·omega
 have w:=D.mkr;have d:zA (λb=>t.ownBlock≠some b) u n:=((zA.refl _ _).alloc o).grown Q (λk y _ i=>i y);refine⟨j,m,by simpa using R,λb a=> ?_,D.keep (d.mono λb L a e=> ?_),λb a=> ?_,λb a=> ?_,?_⟩
 ·rcases C with e|e
  ·rw[e]at a;exact x b a
  ·rw[e]at a;injection a with a;subst a;(have G:(u.alloc o).heap.size =u.heap.size+1:=by simp);rw[G];refine⟨⟨λP=> ?_,?_⟩,λi=> ?_,λW=> ?_⟩
   ·have:=w.liveF _ P;omega
   ·have:=v.2;omega
   ·have:=w.liveZ _ i;omega
   ·have:=v.1 _ W;omega
 ·have z:=x b e;rcases a with a|a|a|a
  ·exact z.1.1 a
  ·exact z.2.1 a
  ·exact z.2.2 a
  ·exact z.1.2 a
 ·rcases q b a with a|a
  ·exact h.hF b a
  ·have:=h.kept.size;exact Or.inr (by omega)
 ·rcases s b a with a|a
  ·exact h.hZ b a
  ·have:=h.kept.size;exact Or.inr (by omega)
 ·have U:=h.kept.size;have M:=d.size;refine⟨d.os.trans (g.os.trans (f.os.trans h.kept.os)),d.tape.trans (g.tape.trans (f.tape.trans h.kept.tape)),d.output.trans (g.output.trans (f.output.trans h.kept.output)),by omega,λk y i=> ?_⟩;rw[d.block k (by omega) (λe=>by have:=(h.own.lt k e).1;omega),g.block k (by omega) (zF4 h.hF i y (Nat.le_refl _)),f.block k (by omega),h.kept.block k y i]
end Go.Proofs.YthpocbeoanipbaaGreatDoor
