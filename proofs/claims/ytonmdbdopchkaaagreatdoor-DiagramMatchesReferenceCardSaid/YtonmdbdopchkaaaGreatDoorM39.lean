/- Texts W40 W41 CU V16 W42 CW. -/
import Derived.Test.YtonmdbdopchkaaaGreatDoorM36
import Derived.Test.YtonmdbdopchkaaaGreatDoorM37
set_option linter.all false
namespace Go.Proofs.YtonmdbdopchkaaaGreatDoor
open Go.RowKit
set_option maxHeartbeats 8000000
set_option maxRecDepth 100000
theorem Tryz.egBuild1:∀args w,(callFunc 29 args).run Tryz.prog w= .ok (.enter 29 args) w:=enters_of Tryz.func29 (by kernel_rfl) rfl
abbrev GV.args(c:GV)(cs:List Value)(i:Nat):Array Value:=#[.agg cs.toArray,.int .i64 i,.pointer (some ⟨c.Mv,0,none⟩),.pointer (some ⟨c.Fv,0,none⟩),.pointer (some ⟨c.Dv,0,none⟩),.pointer (some ⟨c.Nv,0,none⟩),.pointer (some ⟨c.Gv,0,none⟩)]
section
variable {c:GV} {ds:List zC} {Zd:zD} {D:Option Addr} {dcap B0:Nat} {w:World} {st:GSt} {F Z Zf:zD} {f:Fm} {cs:List Value}
theorem zDN.node(h:zDN c ds Zd D dcap B0 w st F Z Zf f cs)(b:Bool){W:World}(hW:Below w.heap.size w W):
  Calls Tryz.prog 30 #[.pointer (some ⟨c.M,0,none⟩),.agg #[.bool b,.int .i64 0,.slice none 0 0,.slice none 0 0]] W (zCC W c.M F (λb=>Z b∨False) (zW st.all ⟨b,0,[],[]⟩)):=
 zGH c.M st.all F Z (λ_=>False) ⟨b,0,[],[]⟩ [.bool b,.int .i64 0,.slice none 0 0,.slice none 0 0] W (h.mem.mkr.below hW) (zLj W F b) (by have:=h.all_len;omega) ((h.tab.on (hW.mono h.base.1)).mono (by have:=h.base.1;have:=hW.size;omega))
theorem zM4(i:Nat)(h:zDN c ds Zd D dcap B0 w st F Z Zf f cs)(hc:f.op=1∨f.op=2):
  Calls Tryz.prog 29 (c.args cs i) w (zEn c (.slice D ds.length dcap) w F Z (zBW (decide (f.op=1)) st.full st)):=by
 have HP:=hid (λ(b:Bool)(W w':World)(e:Ending)(hW:Below w.heap.size w W) hp=> @zSC c (.slice D ds.length dcap) w W w' st F Z b e h.mem hW hp);have HN:=hid (λ(b:Bool)(W:World)(hW:Below w.heap.size w W)=>h.node b hW);obtain⟨A,cap,rfl⟩:=FmR.form h.fm;have m0:=h.mem.mv.cell;have m0l:=h.mem.mv.lt;have HB:=hid (λo=>zE w o);clear h;unfold GV.args;generalize f.op=op at*;by_cases h1:op=1
 ·subst h1;go_enter Tryz.func29,Tryz.ntmps29
  go_wp2_with fail
  refine(HN.out true _ (HB.out _)).mono ?_;intro e w1 hp;have HE:=hid (HP.out true _ _ _ (HB.out _) hp);obtain⟨rfl,-⟩:=hp;go_wp2;go_ret;exact HE.out
 ·obtain rfl:op=2:=by omega
  go_enter Tryz.func29,Tryz.ntmps29
  go_wp2_with fail
  refine(HN.out false _ (HB.out _)).mono ?_;intro e w1 hp;have HE:=hid (HP.out false _ _ _ (HB.out _) hp);obtain⟨rfl,-⟩:=hp;go_wp2;go_ret;exact HE.out
theorem MkS.all_cell{M:Nat}{all:List zB}(h:MkS w M all F Z):∃A cap,w.cell? ⟨M,0,none⟩=some (.slice A all.length cap)∧M<w.heap.size:=by
 obtain⟨⟨v,mp,csl,h1,h2,-⟩,hM,-⟩:=h;obtain⟨A,cap,rfl,-⟩:=Row.of_own h2 (by decide);exact⟨A,cap,h1.cell 0,h1.lt⟩
theorem zQu{W w':World}{b full:Bool}{e:Ending}{vd:Value}(h:GrW c vd W ⟨st.all,st.done,full⟩ F Z)(hk:zA (c.kept F) w W)(hp:zCC W c.M F (λb=>Z b∨False) (zW st.all ⟨b,0,[],[]⟩) e w'):
  zEn c vd w F Z (zBW b full st) e w':=by
 obtain⟨he,⟨F',h1,h2⟩,h3⟩:=hp;have hs:=hk.size;refine⟨he,⟨F',_,GrW.made h (Below.refl _ _) h1 h2 (λb hb=>hb.imp id λh=>h.elim) h3,λb hb=>(h2 b hb).imp id λh=>by omega,λb hb=>hb.imp id λh=>h.elim⟩,hk.trans (h3.mono λb _ hb=>hb.1)⟩
theorem zKI(o:Obj)(u:Value):zA (c.kept F) w ((w.setCell ⟨c.Fv,0,none⟩ u).alloc o):=((zA.refl _ _).setCell (λ_ h=>h.2.2 rfl) u).alloc o
theorem zDN.belowB(h:zDN c ds Zd D dcap B0 w st F Z Zf f cs){W:World}(hk:zA (c.kept F) w W):Below B0 w W:=
 ⟨hk.os,hk.tape,hk.output,hk.size,λb hb=>hk.block b (by have:=h.base.1;omega) ⟨λhf=>by have:=h.base.2.1 b hf;omega,by have:=h.base.2.2.1;omega,by have:=h.base.2.2.2;omega⟩⟩
theorem zDN.node2(h:zDN c ds Zd D dcap B0 w st F Z Zf f cs)(b full:Bool){vd:Value}{W:World}(hg:GrW c vd W ⟨st.all,st.done,full⟩ F Z)(hk:zA (c.kept F) w W):
  Calls Tryz.prog 30 #[.pointer (some ⟨c.M,0,none⟩),.agg #[.bool b,.int .i64 0,.slice none 0 0,.slice none 0 0]] W (zCC W c.M F (λb=>Z b∨False) (zW st.all ⟨b,0,[],[]⟩)):=
 zGH c.M st.all F Z (λ_=>False) ⟨b,0,[],[]⟩ [.bool b,.int .i64 0,.slice none 0 0,.slice none 0 0] W hg.mkr (zLj W F b) (by have:=h.all_len;omega) ((h.tab.on (h.belowB hk)).mono (by have:=h.base.1;have:=hk.size;omega))
theorem zM5(i:Nat)(h:zDN c ds Zd D dcap B0 w st F Z Zf f cs)(hc:¬(f.op=1∨f.op=2))(_hi:i≤ds.length)(hs:(st.full||decide (4000<st.all.length))=true∨i=ds.length):
  Calls Tryz.prog 29 (c.args cs i) w (zEn c (.slice D ds.length dcap) w F Z (zBW false (st.full||decide (4000<st.all.length)) st)):=by
 have HS:=hid (λ(o:Obj)(b:Bool)=>(h.mem.setFull b).below (zE _ o));have HN:=hid (λ(full:Bool)(W:World) hg hk=>h.node2 false full (vd:= .slice D ds.length dcap) (W:=W) hg hk);have HP:=hid (λ(full:Bool)(W w':World)(e:Ending) hg hk hp=> @zQu c w st F Z W w' false full e (.slice D ds.length dcap) hg hk hp);have HK:=hid (λ(o:Obj)(u:Value)=> @zKI c w F o u);obtain⟨A,cap,rfl⟩:=FmR.form h.fm;obtain⟨AA,acap,a0,a0l⟩:=h.mem.mkr.all_cell;have m0:=h.mem.mv.cell;have m0l:=h.mem.mv.lt;have f0:=h.mem.fv.cell;have f0f:=h.mem.fv.free;have f0l:=h.mem.fv.lt;have hdl:=zAd h.dom;have e1:(f.op==(1:Int))=false:=by simp;omega
 have e2:(f.op==(2:Int))=false:=by simp;omega
 clear h hc;unfold GV.args;generalize f.op=op at*;generalize hal:st.all.length=n at*
 cases hf:st.full with
 |true=>
  rw[hf]at f0;clear hs;go_enter Tryz.func29,Tryz.ntmps29
  go_upto_region 4 with(fail)
  have hg:=HS.out (.cells #[.int .i64 op,.string f.name,.int .i64 f.cmp,.int .i64 f.num,.slice A f.kids.length cap] 24) true;have hk:=HK.out (.cells #[.int .i64 op,.string f.name,.int .i64 f.cmp,.int .i64 f.num,.slice A f.kids.length cap] 24) (.bool true);have HG:=hid (And.intro hg hk);have hdv:=(hg.dv.cell);clear m0 m0l f0 f0f f0l a0 a0l;have m0:=hg.mv.cell;have m0l:=hg.mv.lt;have d0l:=hg.dv.lt;have f0:=hg.fv.cell;have f0l:=hg.fv.lt;clear hg hk;generalize (w.setCell ⟨c.Fv,0,none⟩ (.bool true)).alloc (.cells #[.int .i64 op,.string f.name,.int .i64 f.cmp,.int .i64 f.num,.slice A f.kids.length cap] 24)=W at*;go_wp2_with fail
  refine(HN.out true _ HG.out.1 HG.out.2).mono ?_;intro e w1 hp;have HE:=hid (HP.out true _ _ _ HG.out.1 HG.out.2 hp);obtain⟨rfl,-⟩:=hp;go_wp2;go_ret;exact HE.out
 |false=>
  rw[hf]at f0 hs;rw[Bool.false_or]at hs;by_cases hn:4000<n
  ·(have e3:decide ((4000:Int)<(n:Int))=true:=by simp;omega);(have e3':decide (4000<n)=true:=by simp;omega);rw[decide_eq_true hn,Bool.false_or];clear hs hn;(go_enter Tryz.func29,Tryz.ntmps29);(go_upto_region 4 with(fail));have hg:=HS.out (.cells #[.int .i64 op,.string f.name,.int .i64 f.cmp,.int .i64 f.num,.slice A f.kids.length cap] 24) true;have hk:=HK.out (.cells #[.int .i64 op,.string f.name,.int .i64 f.cmp,.int .i64 f.num,.slice A f.kids.length cap] 24) (.bool true);have HG:=hid (And.intro hg hk);have hdv:=(hg.dv.cell);clear m0 m0l f0 f0f f0l a0 a0l;have m0:=hg.mv.cell;have m0l:=hg.mv.lt;have d0l:=hg.dv.lt;have f0:=hg.fv.cell;have f0l:=hg.fv.lt;clear hg hk;generalize (w.setCell ⟨c.Fv,0,none⟩ (.bool true)).alloc (.cells #[.int .i64 op,.string f.name,.int .i64 f.cmp,.int .i64 f.num,.slice A f.kids.length cap] 24)=W at*;(go_wp2_with fail);refine(HN.out true _ HG.out.1 HG.out.2).mono ?_;intro e w1 hp;have HE:=hid (HP.out true _ _ _ HG.out.1 HG.out.2 hp);obtain⟨rfl,-⟩:=hp;go_wp2;go_ret;exact HE.out
  ·(have e3:decide ((4000:Int)<(n:Int))=false:=by simp;omega);(have e3':decide (4000<n)=false:=by simp;omega);rw[decide_eq_false hn]at hs;rw[decide_eq_false hn,Bool.false_or];(have e4:((i:Int)==(ds.length:Int))=true:=by simp at hs;simp[hs]);clear hs hn;(go_enter Tryz.func29,Tryz.ntmps29);(go_upto_region 4 with(fail));have hg:=HS.out (.cells #[.int .i64 op,.string f.name,.int .i64 f.cmp,.int .i64 f.num,.slice A f.kids.length cap] 24) false;have hk:=HK.out (.cells #[.int .i64 op,.string f.name,.int .i64 f.cmp,.int .i64 f.num,.slice A f.kids.length cap] 24) (.bool false);have HG:=hid (And.intro hg hk);have hdv:=(hg.dv.cell);clear m0 m0l f0 f0f f0l a0 a0l;have m0:=hg.mv.cell;have m0l:=hg.mv.lt;have d0l:=hg.dv.lt;have f0:=hg.fv.cell;have f0l:=hg.fv.lt;clear hg hk;generalize (w.setCell ⟨c.Fv,0,none⟩ (.bool false)).alloc (.cells #[.int .i64 op,.string f.name,.int .i64 f.cmp,.int .i64 f.num,.slice A f.kids.length cap] 24)=W at*;(go_wp2_with fail);refine(HN.out false _ HG.out.1 HG.out.2).mono ?_;intro e w1 hp;have HE:=hid (HP.out false _ _ _ HG.out.1 HG.out.2 hp);obtain⟨rfl,-⟩:=hp;go_wp2;go_ret;exact HE.out
end
theorem zFw{σ:Type}(f:Int->σ->Int × σ):∀(l:List Int)(v:Int)(st:σ),zH f (l++[v]) st=((zH f l st).1++[(f v (zH f l st).2).1],(f v (zH f l st).2).2)
 |[],_,_=>rfl
 |a::l,v,st=>by
  have ih:=zFw f l v (f a st).2;rw[List.cons_append,zH,zH,ih];rfl
structure GrL (c:GV) (vd:Value) (w6 wr:World) (F Z:zD) (st':GSt) (kids:List Int) (vk:Value) (F' Z':zD):Prop where
 own:wr.ownsRow w6.heap.size 3 1 vk kids.length (kids.map (.int .i64))
 row:∀b,vk.ownBlock=some b->c.kept F' b∧¬Z' b∧¬c.var b
 mem:GrW c vd wr st' F' Z'
 hF:∀b,F' b->F b∨w6.heap.size≤b
 hZ:∀b,Z' b->Z b∨w6.heap.size≤b
 kept:zA (c.kept F) w6 wr
theorem GrL.start{c:GV}{vd:Value}{w6:World}{F Z:zD}{st:GSt}(h:GrW c vd w6 st F Z):GrL c vd w6 w6 F Z st [] (.slice none 0 0) F Z:=
 ⟨World.ownsRow_nil _ _ _ _,λb hb=>(by cases hb),h,λb hb=>Or.inl hb,λb hb=>Or.inl hb,zA.refl _ _⟩
theorem zDD{c:GV}{F F':zD}{n m:Nat}(h:∀b,F' b->F b∨n≤b){b:Nat}(hb:c.kept F b)(hlt:b<m)(hm:m≤n):c.kept F' b:=
 ⟨λhf=>by
  rcases h b hf with hf|hf
  ·exact hb.1 hf
  ·omega,hb.2⟩
theorem GrL.step{c:GV}{vd:Value}{w6 wr w7 w8 w10:World}{F Z F' Z':zD}{st':GSt}{kids:List Int}{vk v5:Value}{r:Int × GSt}{e:Ending}{o:Obj}(h:GrL c vd w6 wr F Z st' kids vk F' Z')(hb7:Below wr.heap.size wr w7)
  (hp:zEn c vd w7 F' Z' r e w8)(hg:(w8.alloc o).grownBy w10 vk.ownBlock)(ho:w10.ownsRow w6.heap.size 3 1 v5 (kids.length+1) (kids.map (.int .i64)++[.int .i64 r.1]))(hat:v5.ownBlock=vk.ownBlock∨v5.ownBlock=some (w8.alloc o).heap.size):
  ∃F'' Z'',GrL c vd w6 w10 F Z r.2 (kids++[r.1]) v5 F'' Z'':=by
 obtain⟨-,⟨F'',Z'',hm,hF'',hZ''⟩,hk8⟩:=hp;have hs7:=hb7.size;have hs8:=hk8.size;have hlt:=hm.lt;have hown8:w8.ownsRow w6.heap.size 3 1 vk kids.length (kids.map (.int .i64)):=zl (zl h.own (zA.of_below (Z:=λ_=>True) hb7) (λ_ _=>trivial)) hk8 (λk hk=>(h.row k hk).1);have hvk:∀b,vk.ownBlock=some b->b<wr.heap.size:=λb hb=>(h.own.lt b hb).2
 have hnF:∀b,vk.ownBlock=some b->c.kept F'' b∧¬Z'' b∧¬c.var b:=λb hb=>by
  have h1:=h.row b hb;have h2:=hvk b hb;refine⟨zDD hF'' h1.1 h2 hs7,λhz=> ?_,h1.2.2⟩;rcases hZ'' b hz with hz|hz
  ·exact h1.2.1 hz
  ·omega
 have hmk:=hm.mkr;have hk10:zA (λb=>vk.ownBlock≠some b) w8 w10:=((zA.refl _ _).alloc o).grown hg (λk hk _ hz=>hz hk);refine⟨F'',Z'',by simpa using ho,λb hb=> ?_,hm.keep (hk10.mono λb hlt' hb e=> ?_),λb hb=> ?_,λb hb=> ?_,?_⟩
 ·rcases hat with e|e
  ·rw[e]at hb;exact hnF b hb
  ·rw[e]at hb;injection hb with hb;subst hb;(have hsz:(w8.alloc o).heap.size =w8.heap.size+1:=by simp);rw[hsz];refine⟨⟨λhf=> ?_,?_,?_⟩,λhz=> ?_,λhv=> ?_⟩
   ·have:=hmk.liveF _ hf;omega
   ·have:=hlt.2.2;omega
   ·have:=hlt.2.1;omega
   ·have:=hmk.liveZ _ hz;omega
   ·have:=hlt.1 _ hv;omega
 ·have hn:=hnF b e;rcases hb with hb|hb|hb|hb|hb
  ·exact hn.1.1 hb
  ·exact hn.2.1 hb
  ·exact hn.2.2 hb
  ·exact hn.1.2.2 hb
  ·exact hn.1.2.1 hb
 ·rcases hF'' b hb with hb|hb
  ·exact h.hF b hb
  ·have:=h.kept.size;exact Or.inr (by omega)
 ·rcases hZ'' b hb with hb|hb
  ·exact h.hZ b hb
  ·have:=h.kept.size;exact Or.inr (by omega)
 ·have hs6:=h.kept.size;have hs10:=hk10.size;refine⟨hk10.os.trans (hk8.os.trans (hb7.os.trans h.kept.os)),hk10.tape.trans (hk8.tape.trans (hb7.tape.trans h.kept.tape)),hk10.output.trans (hk8.output.trans (hb7.output.trans h.kept.output)),by omega,λk hk hz=> ?_⟩;rw[hk10.block k (by omega) (λe=>by have:=(h.own.lt k e).1;omega),hk8.block k (by omega) (zDD h.hF hz hk (Nat.le_refl _)),hb7.block k (by omega),h.kept.block k hk hz]
def ze(ds:List zC)(f:Fm):List zC->List Int->List zB->Int × List zB
 |[],c,all=>zW all ⟨evF ds c f,0,[],[]⟩
 |x::rest,c,all=>
  let r:=zH (λv all=>ze ds f rest (c++[v]) all) (zQ f x) all
  zb r.2 c.length (zQ f x) r.1
def zBe(f:Fm):List zC->Nat
 |[]=>1
 |x::rest=>(zQ f x).length *zBe f rest+1
theorem zM6(all:List zB)(n:zB):Rng (zW all n).2 (zW all n).1∧(zW all n).2.length ≤all.length+1:=by
 unfold zW;by_cases hm:n∈all
 ·rw[if_pos hm];have hlt:=List.idxOf_lt_length_of_mem hm;exact⟨⟨by simp,by simpa using hlt⟩,Nat.le_succ _⟩
 ·rw[if_neg hm];exact⟨⟨by simp,by rw[List.length_append,List.length_singleton];omega⟩,by simp⟩
theorem zQv(all:List zB)(i:Int)(ss ks:List Int)(hk:∀k∈ks,Rng all k)(hne:ks≠[]):Rng (zb all i ss ks).2 (zb all i ss ks).1∧(zb all i ss ks).2.length ≤all.length+1:=by
 unfold zb;split
 ·exact⟨hk _ (zAf (List.length_pos_iff.2 hne)),Nat.le_succ _⟩
 ·exact zM6 _ _
theorem zFU{g:Int->List zB->Int × List zB}{C:Nat}(hpre:∀v all,∃t,(g v all).2=all++t)(hg:∀v all,Rng (g v all).2 (g v all).1∧(g v all).2.length ≤all.length+C):∀(l:List Int)(all:List zB),
  (∃t,(zH g l all).2=all++t)∧(∀k∈(zH g l all).1,Rng (zH g l all).2 k)∧(zH g l all).2.length ≤all.length+l.length*C
 |[],all=>⟨⟨[],by simp[zH]⟩,by simp[zH],by simp[zH]⟩
 |v::l,all=>by
  obtain⟨h1,h2⟩:=hg v all;obtain⟨k0,k1,k2⟩:=zFU hpre hg l (g v all).2;have hp:=hpre v all;unfold zH;refine⟨zDC hp k0,λk hk=> ?_,?_⟩
  ·rcases List.mem_cons.1 hk with rfl|hk
   ·obtain⟨t,ht⟩:=k0;rw[ht];exact h1.app t
   ·exact k1 k hk
  ·rw[List.length_cons,Nat.add_mul,Nat.one_mul];simp only at k2⊢;omega
theorem zCe(ds:List zC)(f:Fm):∀(rest:List zC)(c:List Int)(all:List zB),(∃t,(ze ds f rest c all).2=all++t)∧Rng (ze ds f rest c all).2 (ze ds f rest c all).1∧(ze ds f rest c all).2.length ≤all.length+zBe f rest
 |[],c,all=>by
  unfold ze zBe;exact⟨zDH _ _,zM6 _ _⟩
 |x::rest,c,all=>by
  unfold ze zBe;obtain⟨k0,k1,k2⟩:=zFU (g:=λv all=>ze ds f rest (c++[v]) all) (C:=zBe f rest) (λv all=>(zCe ds f rest _ all).1) (λv all=>(zCe ds f rest _ all).2) (zQ f x) all;have hne:=zET (f:=λv all=>ze ds f rest (c++[v]) all) (l:=zQ f x) (st:=all) (λe=>by have:=(zDZ f x).1;rw[e]at this;exact absurd this (by decide));obtain⟨a1,a2⟩:=zQv _ (c.length:Int) (zQ f x) _ k1 hne;exact⟨zDC k0 (zDB _ _ _ _),a1,Nat.le_trans a2 (by omega)⟩
theorem zPT{P:Program}{w:World}{base:Nat}{t ty e:TypeId}{size bytes:Nat}(ht:P.underlying t=some (.slice e))(E:zCV P e size bytes){v:Value}{n:Nat}{xs:List Value}(hown:w.ownsRow base e size v n xs)
  {A:Option Addr}{m c:Nat}{Zn:zD}{news:List Value}(hn:news.length=m*size)(hr:Row Zn w A news)(h1:∀u∈news,u.oneCell'=true)(h63:n+m≤maxLen)(hb:(n+m)*bytes≤140737488355328)(hbase:base≤w.heap.size):
  ∃v' w',(Builtin.append_ #[t,t] ty #[v,.slice A m c]).run P w= .ok v' w'∧w'.ownsRow base e size v' (n+m) (xs++news)∧w.grownBy w' v.ownBlock∧(v'.ownBlock=v.ownBlock∨v'.ownBlock=some w.heap.size):=by
 obtain⟨hp,i,z,hi,hz,hsz,hby,hzs⟩:=E
 cases A with
 |some a=>
  obtain⟨v',w',hrun,h2,h3,_,h5⟩:=run_append_own_at (P:=P) w base t ty e i z size bytes ht hi hz hsz hby hzs hp v n xs hown a m c news hn (λj u hu=>by
   obtain⟨b,off,he,_,hc⟩:=hr (λe=>by rw[e]at hu;cases hu);injection he with he;subst he;rw[show(⟨b,off,none⟩:Addr).add j=⟨b,off+j,none⟩ from by unfold Addr.add;split<;>simp_all]
   exact hc j u hu) h1 h63 hb hbase
  exact⟨v',w',hrun,h2,h3,h5⟩
 |none=>
  have hne:news=[]:=by
   by_cases h:news=[]
   ·exact h
   ·obtain⟨b,off,he,_⟩:=hr h;cases he
  subst hne
  have hm:m=0:=by
   rw[List.length_nil]at hn;rcases Nat.mul_eq_zero.1 hn.symm with h|h
   ·exact h
   ·omega
  subst hm;refine⟨v,w,?_,by simpa using hown,⟨rfl,rfl,rfl,Nat.le_refl _,λ_ _ _=>rfl⟩,Or.inl rfl⟩;rcases hown.2 with⟨rfl,rfl⟩|⟨g,cap,cur,rfl,hbg,hg,hnc,hcm,hcs,htake⟩
  ·simp[Builtin.append_,run_underlying ht,sizeOf,typeInfo,hi,Builtin.lenOf,Builtin.firstCells]
  ·simp[Builtin.append_,run_underlying ht,sizeOf,typeInfo,hi,Builtin.lenOf,Builtin.firstCells,hnc,storeCells]
theorem zEp{P:Program}{o:Oper}{a:Act}{w:World}{K:Act->World->Prop}{Q:Exit->Act->World->Prop}
  (s x:Operand)(t:TypeId)(ho:o.op= .call {callee:= .builtin .append,args:=#[s,x],argTypes:=#[t,t]})
  {base:Nat}{e:TypeId}{size bytes:Nat}(ht:P.underlying t=some (.slice e))(El:zCV P e size bytes){v:Value}{n:Nat}{xs:List Value}(hs:a.eval s=v)(hown:w.ownsRow base e size v n xs)
  {A:Option Addr}{m c:Nat}(hx:a.eval x= .slice A m c){Zn:zD}{news:List Value}(hn:news.length=m*size)(hr:Row Zn w A news)(h1:∀u∈news,u.oneCell'=true)(h63:n+m≤maxLen)(hb:(n+m)*bytes≤140737488355328)(hbase:base≤w.heap.size)
  (hK:∀v' w',w'.ownsRow base e size v' (n+m) (xs++news)->w.grownBy w' v.ownBlock->(v'.ownBlock=v.ownBlock∨v'.ownBlock=some w.heap.size)->K (a.put o.dst v') w'):
  Oper.wp P o a w K Q:=by
 obtain⟨v',w',hrun,h2,h3,h4⟩:=zPT (ty:=o.type) ht El hown hn hr h1 h63 hb hbase;unfold Oper.wp execOp;simp only[ho,resolve,invoke,builtin,Sem.run_bind,Sem.run_pure,Result.andThen_ok,List.map_toArray,List.map_cons,List.map_nil,hs,hx];rw[hrun];exact hK _ _ h2 h3 h4
theorem zFx{w:World}{B:Nat}(hB:B≤w.heap.size)(t:TypeId):(w.alloc (.cells #[] t)).ownsRow B t 1 (.slice (some ⟨w.heap.size,0,none⟩) 0 0) 0 []:=by
 have:=zDJ (W:=w.alloc (.cells #[] t)) (base:=B) (Blk.new w t #[]) hB (by simp);simpa using this
structure BdL (w6 wr:World) (M:Nat) (F Z:zD) (all:List zB) (kids:List Int) (vk:Value) (F' Z':zD):Prop where
 own:wr.ownsRow w6.heap.size 3 1 vk kids.length (kids.map (.int .i64))
 row:∀b,vk.ownBlock=some b->¬F' b∧¬Z' b
 mem:RkS wr M all F' Z'
 hF:∀b,F' b->F b∨w6.heap.size≤b
 hZ:∀b,Z' b->Z b∨w6.heap.size≤b
 kept:zA (λb=>¬F b) w6 wr
theorem BdL.start{w6:World}{M:Nat}{F Z:zD}{all:List zB}(h:RkS w6 M all F Z):BdL w6 w6 M F Z all [] (.slice none 0 0) F Z:=
 ⟨World.ownsRow_nil _ _ _ _,λb hb=>(by cases hb),h,λb hb=>Or.inl hb,λb hb=>Or.inl hb,zA.refl _ _⟩
theorem BdL.off{w6 wr:World}{M:Nat}{F Z F' Z':zD}{all:List zB}{kids:List Int}{vk:Value}(h:BdL w6 wr M F Z all kids vk F' Z'){b:Nat}(hb:b<w6.heap.size)(hF:¬F b):¬F' b∧vk.ownBlock≠some b:=
 ⟨λhf=>by
  rcases h.hF b hf with hf|hf
  ·exact hF hf
  ·omega,λe=>by have:=(h.own.lt b e).1;omega⟩
theorem BdL.step{w6 wr w7 w8 w10:World}{M:Nat}{F Z F' Z':zD}{all:List zB}{kids:List Int}{vk v5:Value}{r:Int × List zB}{e:Ending}{o:Obj}(h:BdL w6 wr M F Z all kids vk F' Z')(hb7:Below wr.heap.size wr w7)
  (hp:zE4 w7 M F' Z' r e w8)(hg:(w8.alloc o).grownBy w10 vk.ownBlock)(ho:w10.ownsRow w6.heap.size 3 1 v5 (kids.length+1) (kids.map (.int .i64)++[.int .i64 r.1]))(hat:v5.ownBlock=vk.ownBlock∨v5.ownBlock=some (w8.alloc o).heap.size):
  ∃F'' Z'',BdL w6 w10 M F Z r.2 (kids++[r.1]) v5 F'' Z'':=by
 obtain⟨-,⟨F'',Z'',hm,hF'',hZ''⟩,hk8⟩:=hp;have hs7:=hb7.size;have hs8:=hk8.size;have hvk:∀b,vk.ownBlock=some b->b<wr.heap.size:=λb hb=>(h.own.lt b hb).2
 have hnF:∀b,vk.ownBlock=some b->¬F'' b∧¬Z'' b:=λb hb=>by
  have h1:=h.row b hb;have h2:=hvk b hb;refine⟨λhz=> ?_,λhz=> ?_⟩
  ·rcases hF'' b hz with hz|hz
   ·exact h1.1 hz
   ·omega
  ·rcases hZ'' b hz with hz|hz
   ·exact h1.2 hz
   ·omega
 have hk10:zA (λb=>vk.ownBlock≠some b) w8 w10:=((zA.refl _ _).alloc o).grown hg (λk hk _ hz=>hz hk);refine⟨F'',Z'',by simpa using ho,λb hb=> ?_,hm.keep (hk10.mono λb hlt' hb e=> ?_),λb hb=> ?_,λb hb=> ?_,?_⟩
 ·rcases hat with e|e
  ·rw[e]at hb;exact hnF b hb
  ·rw[e]at hb;injection hb with hb;subst hb;(have hsz:(w8.alloc o).heap.size =w8.heap.size+1:=by simp);rw[hsz];refine⟨λhf=> ?_,λhz=> ?_⟩
   ·have:=hm.liveF _ hf;omega
   ·have:=hm.liveZ _ hz;omega
 ·have hn:=hnF b e;rcases hb with hb|hb
  ·exact hn.1 hb
  ·exact hn.2 hb
 ·rcases hF'' b hb with hb|hb
  ·exact h.hF b hb
  ·have:=h.kept.size;exact Or.inr (by omega)
 ·rcases hZ'' b hb with hb|hb
  ·exact h.hZ b hb
  ·have:=h.kept.size;exact Or.inr (by omega)
 ·have hs6:=h.kept.size;have hs10:=hk10.size;refine⟨hk10.os.trans (hk8.os.trans (hb7.os.trans h.kept.os)),hk10.tape.trans (hk8.tape.trans (hb7.tape.trans h.kept.tape)),hk10.output.trans (hk8.output.trans (hb7.output.trans h.kept.output)),by omega,λk hk hz=> ?_⟩;rw[hk10.block k (by omega) (λe=>by have:=(h.own.lt k e).1;omega),hk8.block k (by omega) (h.off hk hz).1,hb7.block k (by omega),h.kept.block k hk hz]
theorem BdL.finish{w w1 wr w':World}{M:Nat}{F Z F' Z':zD}{all:List zB}{kids:List Int}{vk:Value}{r:Int × List zB}{e:Ending}(h:BdL w1 wr M F Z all kids vk F' Z')(hb:Below w.heap.size w w1)
  (hp:zE4 wr M F' Z' r e w'):zE4 w M F Z r e w':=by
 obtain⟨he,⟨F2,Z2,hm,hF2,hZ2⟩,hk⟩:=hp;have s1:=hb.size;have s2:=h.kept.size;refine⟨he,⟨F2,Z2,hm,λb hb'=> ?_,λb hb'=> ?_⟩,⟨hk.os.trans (h.kept.os.trans hb.os),hk.tape.trans (h.kept.tape.trans hb.tape),hk.output.trans (h.kept.output.trans hb.output),by have:=hk.size;omega,λk hk' hz=> ?_⟩⟩
 ·rcases hF2 b hb' with hb'|hb'
  ·exact(h.hF b hb').imp id (λh=>by omega)
  ·exact Or.inr (by omega)
 ·rcases hZ2 b hb' with hb'|hb'
  ·exact(h.hZ b hb').imp id (λh=>by omega)
  ·exact Or.inr (by omega)
 ·rw[hk.block k (by omega) (h.off (by omega) hz).1,h.kept.block k (by omega) hz,hb.block k (by omega)]
section
open Go.Shelf
theorem zM7(i:Nat)(f:Fm):(⟨(Lib.itoa (i:Int)).toArray⟩:ByteArray)++⟨(zAi f).toArray⟩=⟨(zCH i f).toArray⟩:=by
 unfold zCH;apply ByteArray.ext;simp
theorem zOF{i:Nat}{f:Fm}(hi:i≤100)(h:(zAi f).length ≤20000):(zCH i f).length ≤20021:=by
 unfold zCH;have:=Lib.itoa_length_le (i:Int) (by omega) (by omega);rw[List.length_append];omega
theorem Tryz.lookK{w:World}{b:Nat}{d:List (List UInt8 × Int)}(h:zu encS w b (kvG d))(k:List UInt8):
  (Instr.lookup 59 (.map (some b)) (.string ⟨k.toArray⟩) true).run Tryz.prog w= .ok (.tuple #[(match kvI d k with|some v=> .int .i64 v|none=> .int .i64 0),.bool (kvI d k).isSome]) w:=by
 rw[Tryz.lookI h,zPk,if_pos rfl];cases kvI d k<;>rfl
section
variable {c:GV} {ds:List zC} {Zd:zD} {D:Option Addr} {dcap B0:Nat} {w:World} {st:GSt} {F Z Zf:zD} {f:Fm} {cs:List Value}
theorem zDN.spell(h:zDN c ds Zd D dcap B0 w st F Z Zf f cs){W1:World}(hk:zA (c.kept F) w W1):
  Calls Tryz.prog 31 #[.pointer (some ⟨W1.heap.size,0,none⟩),.agg cs.toArray] (W1.alloc (.cells #[.pointer none,.slice none 0 0] 69)) λe w'=>
   e= .returned (.tuple #[])∧IsB W1.heap.size W1.heap.size (Lib.byteCells (zAi f)) w'∧Below W1.heap.size W1 w':=by
 have hs:=hk.size;have hf:FmR (λb=>Zf b∧b<w.heap.size) W1 f cs:=FmR.keep (hk.mono λb _ hb=>(h.offF b hb.1).1) _ _ (FmR.live _ _ h.fm);have hlen:=zGi f (zFC f h.ok) (FmR.fitF _ _ h.fm);have hsz:=h.size
 refine(zSB W1.heap.size W1.heap.size (λb=>Zf b∧b<w.heap.size) (λz hz=>by omega) (zJ f) f (Nat.le_refl _) cs [] _ (FmR.keep ((zA.refl _ _).alloc _) _ _ hf) (by omega) (by simp;omega)
  (((h.tab.on ((h.belowB hk).alloc (by have:=h.base.1;omega) _))).mono (by have:=h.base.1;omega)) (Lib.IsBuilderF.of (Lib.fresh_isBuilder _ _ _)) (by simp)).mono ?_
 rintro e w' ⟨rfl,h1,h2,-⟩;exact⟨rfl,by simpa using h1,(zE W1 _).trans h2⟩
theorem zQw(i:Nat)(h:zDN c ds Zd D dcap B0 w st F Z Zf f cs)(hc:¬(f.op=1∨f.op=2))(hi:i<ds.length)(hs:(st.full||decide (4000<st.all.length))=false){k:Int}(hkn:kvI st.done (zCH i f)=some k):
  Calls Tryz.prog 29 (c.args cs i) w (zEn c (.slice D ds.length dcap) w F Z (k,st)):=by
 simp only[Bool.or_eq_false_iff]at hs;obtain⟨hfu,hal⟩:=hs;have HH:=hid h;have HKN:=hid hkn;have HST:=hid (show(⟨st.all,st.done,false⟩:GSt)=st from by rw[<-hfu]);have HS:=hid (λ(o:Obj)=>(h.mem.setFull false).below (zE _ o));have HK:=hid (λ(o:Obj)=> @zKI c w F o (.bool false));have hkl:=zOF (i:=i) (f:=f) (by have:=zAd h.dom;omega) (by have:=zGi f (zFC f h.ok) (FmR.fitF _ _ h.fm);have:=h.size;omega);obtain⟨A,cap,rfl⟩:=FmR.form h.fm;obtain⟨AA,acap,a0,a0l⟩:=h.mem.mkr.all_cell;have m0:=h.mem.mv.cell;have m0l:=h.mem.mv.lt;have f0:=h.mem.fv.cell;have f0f:=h.mem.fv.free;have f0l:=h.mem.fv.lt;have hdl:=zAd h.dom;have e1:(f.op==(1:Int))=false:=by simp;omega
 have e2:(f.op==(2:Int))=false:=by simp;omega
 have e3:decide ((4000:Int)<(st.all.length:Int))=false:=by simp at hal⊢;omega
 have e4:((i:Int)==(ds.length:Int))=false:=by simp;omega
 rw[hfu]at f0;clear h hc hkn;unfold GV.args;go_enter Tryz.func29,Tryz.ntmps29
 go_upto_region 4 with(fail)
 have hg:=HS.out (.cells #[.int .i64 f.op,.string f.name,.int .i64 f.cmp,.int .i64 f.num,.slice A f.kids.length cap] 24);have hk:=HK.out (.cells #[.int .i64 f.op,.string f.name,.int .i64 f.cmp,.int .i64 f.num,.slice A f.kids.length cap] 24);have HG:=hid (And.intro hg hk);have hbx:=Blk.new' (w.setCell ⟨c.Fv,0,none⟩ (.bool false)) 24 #[.int .i64 f.op,.string f.name,.int .i64 f.cmp,.int .i64 f.num,.slice A f.kids.length cap] (n:=w.heap.size) (by simp[World.setCell]);clear m0 m0l f0 f0f f0l a0 a0l HS HK;have d0:=hg.dv.cell;have d0l:=hg.dv.lt;have f0:=hg.fv.cell;have f0l:=hg.fv.lt;have hwz:w.heap.size<((w.setCell ⟨c.Fv,0,none⟩ (.bool false)).alloc (.cells #[.int .i64 f.op,.string f.name,.int .i64 f.cmp,.int .i64 f.num,.slice A f.kids.length cap] 24)).heap.size :=by simp[World.setCell]
 generalize ((w.setCell ⟨c.Fv,0,none⟩ (.bool false)).alloc (.cells #[.int .i64 f.op,.string f.name,.int .i64 f.cmp,.int .i64 f.num,.slice A f.kids.length cap] 24))=W1 at*;have HBX:=hid hbx;have b0:=hbx.at0;have b1:=hbx.at1;have b2:=hbx.at2;have b3:=hbx.at3;have b4:=hbx.at4;clear hg hk hbx;go_wp2_with fail
 refine(HH.out.spell HG.out.2).mono ?_;rintro e w3 ⟨rfl,hB3,hb3⟩;have hgk3:zA (c.kept F) w w3:=HG.out.2.trans (.of_below hb3);have htab3:zBJ W1.heap.size w3:=((HH.out.tab.on (HH.out.belowB hgk3)).mono (by have:=HH.out.base.1;omega));have HI:=hid (zGR (B:=W1.heap.size) (i:Int) w3 (by constructor<;>omega) htab3);have HB3:=hid (And.intro hB3 hb3)
 have hadd:∀W,(Op.stringOp .add ⟨(Lib.itoa (i:Int)).toArray⟩ ⟨(zAi f).toArray⟩).run Tryz.prog W= .ok (.string ⟨(zCH i f).toArray⟩) W:=λW=>by
  rw[<-zM7];refine run_string_add_sum W _ _ ?_;have h1:=hkl;unfold zCH at h1;rw[List.length_append]at h1;simp only[ByteArray.size,List.size_toArray];omega
 clear b0 b1 b2 b3 b4 d0 d0l f0 f0l hgk3 htab3 hB3 hb3;go_wp2_with fail
 refine HI.out.mono ?_;rintro e w4 ⟨rfl,hb4⟩;have zOn:=hid (Tryz.Builder_String_any_f W1.heap.size W1.heap.size (zAi f) w4 (zIf HB3.out.1 hb4) (by have:=HB3.out.2.size;have:=hb4.size;omega));have HB4:=hid (zy HB3.out.2 hb4);clear hb4;go_wp2_with fail
 refine zOn.out.mono ?_;rintro e w5 ⟨rfl,-,hb5⟩;have hbw5:Below W1.heap.size W1 w5:=HB4.out.trans hb5;have hg5:=HG.out.1.below hbw5;have HB5:=hid hbw5;have hbx5:=HBX.out.below hbw5 hwz;have n0:=hg5.nv.cell;have n0l:=hg5.nv.lt;have hl:=Tryz.lookK hg5.done (zCH i f);simp only[HKN.out,Option.isSome_some]at hl;have HG5:=hid hg5;clear hb5 hbw5 hbx5 hg5 zOn HI;go_wp2;go_ret;have hg6:=HG5.out;rw[HST.out]at hg6;exact⟨rfl,⟨F,Z,hg6,λb hb=>Or.inl hb,λb hb=>Or.inl hb⟩,HG.out.2.trans (.of_below HB5.out)⟩
end
end
theorem zH9{c t:List Int}{i:Nat}(h:i<c.length):(c++t).getD i 0=c.getD i 0:=by
 rw[List.getD_eq_getElem?_getD,List.getD_eq_getElem?_getD,List.getElem?_append_left h]
theorem zKv{c t:List Int}{i q:Nat}(h:i=c.length+q):(c++t).getD i 0=t.getD q 0:=by
 rw[List.getD_eq_getElem?_getD,List.getD_eq_getElem?_getD,List.getElem?_append_right (by omega),h,Nat.add_sub_cancel_left]
theorem zOG{t:List Int}{k q:Nat}:(t.drop k).getD q 0=t.getD (k+q) 0:=by
 rw[List.getD_eq_getElem?_getD,List.getD_eq_getElem?_getD,List.getElem?_drop]
theorem zOH{lo hi n:Int}{l:List Int}(h:∃rs,l=lo::rs∧zk lo hi rs):∃rs,zAr l n lo hi=lo::rs∧zk lo hi rs:=by
 obtain⟨rs,rfl,ha⟩:=h;unfold zAr;split
 ·exact⟨rs,rfl,ha⟩
 ·unfold zAE;rw[if_neg (by omega)];split
  ·exact⟨rs,rfl,ha⟩
  ·exact⟨zAE rs n,rfl,zJs ha (by omega) (by omega)⟩
mutual
theorem zKw{nm:ByteArray}{lo hi:Int}:∀(f:Fm)(l:List Int),(∃rs,l=lo::rs∧zk lo hi rs)->∃rs,zCA nm lo hi f l=lo::rs∧zk lo hi rs
 | .mk op n cm nu kids,l,h=>by
  rw[zCA];refine zJf kids _ ?_;split
  ·exact zOH (zOH h)
  ·exact h
theorem zJf{nm:ByteArray}{lo hi:Int}:∀(r:List Fm)(l:List Int),(∃rs,l=lo::rs∧zk lo hi rs)->∃rs,zAN nm lo hi r l=lo::rs∧zk lo hi rs
 |[],l,h=>by rw[zAN];exact h
 |k::r,l,h=>by rw[zAN];exact zJf r _ (zKw k l h)
end
theorem zPU(f:Fm)(x:zC):∃rs,zQ f x=x.lo::rs∧zk x.lo x.hi rs:=zKw f _ ⟨[],rfl,trivial⟩
theorem zOI{f:Fm}{x:zC}{rs:List Int}(hh:x.hi≤1000000)(hr:zQ f x=x.lo::rs)(ha:zk x.lo x.hi rs){v y:Int}(h0:x.lo≤v)(h1:v≤x.hi)(hy:y=zn x.lo rs (nx rs v)):
  ∀n∈z7 x.name f,(y<n↔v<n)∧(y<n+1↔v<n+1):=by
 have hle:=zCj ha h0;have hgap:=λz hz=>zCt (v:=v) (x:=z) ha hz
 have hlo:x.lo≤y:=by
  rw[hy];exact(zIr ha (by omega) (zCs _ _)).1
 rw[<-hy]at hle hgap
 have key:∀m,(∃n∈z7 x.name f,m=n∨m=n+1)->(y<m↔v<m):=λm hm=>by
  by_cases hr':x.lo<m∧m≤x.hi
  ·have hmem:m∈zQ f x:=zFv hh f _ m (Or.inr ⟨hm,by omega,hr'.2⟩);rw[hr]at hmem;rcases List.mem_cons.1 hmem with e|hmem
   ·omega
   ·exact⟨λh=>hgap m hmem h,λh=>by omega⟩
  ·omega
 exact λn hn=>⟨key n ⟨n,hn,Or.inl rfl⟩,key (n+1) ⟨n,hn,Or.inr rfl⟩⟩
mutual
theorem zJg{nm:ByteArray}{t:Int}:∀f:Fm,t∈z7 nm f->nm∈zAC f
 | .mk op name cm nu kids,h=>by
  rw[z7]at h;rw[zAC];rcases List.mem_append.1 h with h|h
  ·split at h
   ·rename_i hc;rw[if_pos hc.1,hc.2];simp
   ·cases h
  ·exact List.mem_append_right _ (zIn kids h)
theorem zIn{nm:ByteArray}{t:Int}:∀l:List Fm,t∈zj nm l->nm∈zS l
 |[],h=>by rw[zj]at h;cases h
 |k::r,h=>by
  rw[zj]at h;rw[zS];rcases List.mem_append.1 h with h|h
  ·exact List.mem_append_left _ (zJg k h)
  ·exact List.mem_append_right _ (zIn r h)
end
mutual
theorem zOJ{ds:List zC}{c c':List Int}:∀f:Fm,(∀nm,∀n∈z7 nm f,(c.getD (zV ds nm).toNat 0<n↔c'.getD (zV ds nm).toNat 0<n)∧(c.getD (zV ds nm).toNat 0<n+1↔c'.getD (zV ds nm).toNat 0<n+1))->evF ds c f=evF ds c' f
 | .mk op name cm nu kids,h=>by
  have hk:=zM8 (ds:=ds) (c:=c) (c':=c') kids (λnm n hn=>h nm n (by rw[z7];exact List.mem_append_right _ hn));rw[evF,evF,hk.1,hk.2];by_cases h3:op=3
  ·rw[if_pos h3,if_pos h3];have:=h name nu (by rw[z7,if_pos ⟨h3,rfl⟩];simp);exact zML this.1 this.2
  ·rw[if_neg h3,if_neg h3]
theorem zM8{ds:List zC}{c c':List Int}:∀l:List Fm,(∀nm,∀n∈zj nm l,(c.getD (zV ds nm).toNat 0<n↔c'.getD (zV ds nm).toNat 0<n)∧(c.getD (zV ds nm).toNat 0<n+1↔c'.getD (zV ds nm).toNat 0<n+1))->zCK ds c l=zCK ds c' l∧zBb ds c l=zBb ds c' l
 |[],_=>⟨by rw[zCK,zCK],by rw[zBb,zBb]⟩
 |k::r,h=>by
  have h1:=zOJ (ds:=ds) (c:=c) (c':=c') k (λnm n hn=>h nm n (by rw[zj];exact List.mem_append_left _ hn));have h2:=zM8 (ds:=ds) (c:=c) (c':=c') r (λnm n hn=>h nm n (by rw[zj];exact List.mem_append_right _ hn));exact⟨by rw[zCK,zCK,h1,h2.1],by rw[zBb,zBb,h1,h2.2]⟩
end
structure zOK (ds:List zC) (f:Fm) (all:List zB) (c:List Int) (r:Int):Prop where
 rng:Rng all r
 says:∀c',Fit ds c'->S ds all r c'=evF ds (c++c'.drop c.length) f
 low:(nAt all r).kids ≠[]->(c.length:Int)≤(nAt all r).fact
theorem zOK.app{ds:List zC}{f:Fm}{all all':List zB}{c:List Int}{r:Int}(h:zOK ds f all c r)(hg:Good ds all)(hg':Good ds all')(hp:∃t,all'=all++t):zOK ds f all' c r:=by
 obtain⟨t,rfl⟩:=hp;exact⟨h.rng.app t,λc hc=>by rw[zIt hg hg' h.rng];exact h.says c hc,by rw[zE7 h.rng];exact h.low⟩
theorem zUi{ds:List zC}(hd:zR ds=true):∀x∈ds,x.hi≤1000000:=λx hx=>by
 unfold zR at hd;simp only[Bool.and_eq_true,List.all_eq_true]at hd;have:=hd.1.1 x hx;unfold zAv at this;simp only[Bool.and_eq_true,Bool.or_eq_true,beq_iff_eq,decide_eq_true_eq]at this;omega
theorem zHH{ds:List zC}(hd:zR ds=true){f:Fm}(hok:okF ds f):∀(rest:List zC)(c:List Int)(all:List zB),rest=ds.drop c.length->c.length≤ds.length->Good ds all->
  Good ds (ze ds f rest c all).2∧zOK ds f (ze ds f rest c all).2 c (ze ds f rest c all).1
 |[],c,all,hr,hi,hg=>by
  have hlen:ds.length=c.length:=by
   have:=congrArg List.length hr;simp at this;omega
  unfold ze;obtain⟨M,hat⟩:=zFX hg (n:=⟨evF ds c f,0,[],[]⟩) (Or.inl ⟨rfl,rfl,rfl⟩);refine⟨M.good,M.rng,λc' hc=> ?_,λhk=>absurd (by rw[hat]) hk⟩;rw[M.good.S_leaf (by rw[hat]),hat,List.drop_eq_nil_of_le (by rw[hc.1];omega),List.append_nil]
 |x::rest,c,all,hr,hi,hg=>by
  have hlt:c.length<ds.length:=by
   have:=congrArg List.length hr;simp at this;omega
  have hx:ds.getD c.length zAA=x:=by
   have:=congrArg (λl=>l.getD 0 zAA) hr;simp[List.getD_eq_getElem?_getD]at this;rw[List.getD_eq_getElem?_getD];exact this.symm
  have hxm:x∈ds:=by
   (have:x∈ds.drop c.length:=by rw[<-hr];simp);exact List.mem_of_mem_drop this
  have hrest:rest=ds.drop (c.length+1):=by
   have:=congrArg List.tail hr;simpa using this
  obtain⟨rs,hrs,hasc⟩:=zPU f x;have hside:=λv y h0 h1 hy=>zOI (f:=f) (x:=x) (zUi hd x hxm) hrs hasc (v:=v) (y:=y) h0 h1 hy
  unfold ze;rw[hrs];simp only
  have hkid:∀(l:List Int)(all:List zB),Good ds all->Good ds (zH (λv all=>ze ds f rest (c++[v]) all) l all).2∧
    ∀j,j<l.length->zOK ds f (zH (λv all=>ze ds f rest (c++[v]) all) l all).2 (c++[l.getD j 0]) ((zH (λv all=>ze ds f rest (c++[v]) all) l all).1.getD j 0):=by
   intro l
   induction l with
   |nil=>intro all hg;exact⟨hg,λj hj=>absurd hj (by simp)⟩
   |cons v l ih=>
    intro all hg;obtain⟨A1,F1⟩:=zHH hd hok rest (c++[v]) all (by simpa using hrest) (by simp;omega) hg;have hp1:=(zFU (g:=λv all=>ze ds f rest (c++[v]) all) (C:=zBe f rest) (λv all=>(zCe ds f rest _ all).1) (λv all=>(zCe ds f rest _ all).2) l (ze ds f rest (c++[v]) all).2).1;obtain⟨A2,F2⟩:=ih _ A1;refine⟨A2,λj hj=> ?_⟩
    cases j with
    |zero=>exact F1.app A1 A2 hp1
    |succ j=>exact F2 j (by simpa using hj)
  obtain⟨A1,F1⟩:=hkid (x.lo::rs) all hg;have hlk:=zA6 (f:=λv all=>ze ds f rest (c++[v]) all) (x.lo::rs) all;generalize zH (λv all=>ze ds f rest (c++[v]) all) (x.lo::rs) all=r at*;obtain⟨kids,all'⟩:=r;simp only at A1 F1 hlk⊢
  cases kids with
  |nil=>simp at hlk
  |cons k0 ks=>
   have hlk':rs.length=ks.length:=by simpa using hlk.symm
   have hF1:∀q∈k0::ks,∃j,j<(x.lo::rs).length ∧q=(k0::ks).getD j 0:=λq hq=>by
    obtain⟨j,hj,rfl⟩:=List.getElem_of_mem hq;exact⟨j,by simp only[List.length_cons]at hj⊢;omega,by rw[List.getD_eq_getElem?_getD,List.getElem?_eq_getElem hj];rfl⟩
   have hI:=zFz A1 hlt hlk' (by rw[hx];exact hasc) (λq hq=>by obtain⟨j,hj,rfl⟩:=hF1 q hq;exact(F1 j hj).rng) (λq hq hqk=>by
    obtain⟨j,hj,rfl⟩:=hF1 q hq;have:=(F1 j hj).low hqk;rw[List.length_append,List.length_singleton]at this
    omega)
   rw[hx]at hI;obtain⟨M,hS,hlow⟩:=hI;generalize zb all' c.length (x.lo::rs) (k0::ks)=o at*;refine⟨M.good,M.rng,λc' hc=> ?_,hlow⟩;rw[hS c'];have hle:=zCs rs (c'.getD c.length 0);rw[(F1 (nx rs (c'.getD c.length 0)) (by simp only[List.length_cons];omega)).says c' hc];have hfit:=hc.2 c.length hlt;rw[hx]at hfit;have hself:=zGQ hd hlt;rw[hx]at hself;have hsd:=hside (c'.getD c.length 0) _ hfit.1 hfit.2 zH4;have hcl:=hc.1
   have hA:(c++[(x.lo::rs).getD (nx rs (c'.getD c.length 0)) 0]++c'.drop (c.length+1)).getD c.length 0=(x.lo::rs).getD (nx rs (c'.getD c.length 0)) 0:=by
    simp[List.getD_eq_getElem?_getD]
   have hB:(c++c'.drop c.length).getD c.length 0=c'.getD c.length 0:=by
    rw[List.getD_eq_getElem?_getD,List.getD_eq_getElem?_getD,List.getElem?_append_right (Nat.le_refl _),List.getElem?_drop,Nat.sub_self,Nat.add_zero]
   have hC:∀i,i≠c.length->(c++[(x.lo::rs).getD (nx rs (c'.getD c.length 0)) 0]++c'.drop (c.length+1)).getD i 0=(c++c'.drop c.length).getD i 0:=λi hi=>by
    by_cases hil:i<c.length
    ·rw[zH9 (by simp;omega),zH9 hil,zH9 hil]
    ·obtain⟨q,rfl⟩:∃q,i=c.length+1+q:=⟨i-(c.length+1),by omega⟩;rw[zKv (by simp:c.length+1+q=(c++[(x.lo::rs).getD (nx rs (c'.getD c.length 0)) 0]).length +q),zKv (by omega:c.length+1+q=c.length+(1+q)),zOG,zOG,Nat.add_assoc]
   generalize (x.lo::rs).getD (nx rs (c'.getD c.length 0)) 0=y at*;rw[show(c++[y]).length =c.length+1 from by simp];(refine zOJ f λnm n hn=> ?_);have hpos:=zGO f hok nm (zJg f hn);by_cases he:(zV ds nm).toNat =c.length
   ·have hnm:x.name=nm:=by
     have:=zGP (ds:=ds) (nm:=nm) (i:=c.length) (by omega);rwa[hx]at this
    rw[he,hA,hB];exact hsd n (by rw[hnm];exact hn)
   ·rw[hC _ he];exact⟨Iff.rfl,Iff.rfl⟩
def zHa(ds:List zC)(f:Fm):List zB × Int:=
 if zR ds=false∨zBN ds f≠0 then([],1)else if 24<zBo f then([],2)else zAg ds (ze ds f ds [] []).2 (ze ds f ds [] []).1
theorem zSG{ds:List zC}{f:Fm}(hs:zCJ f ds=true):zHa ds f=zBu ds f:=by
 unfold zHa;by_cases h1:zR ds=false∨zBN ds f≠0
 ·rw[if_pos h1];unfold zBu;rw[if_pos h1]
 ·rw[if_neg h1];have h1':=h1;simp only[not_or,Bool.not_eq_false,ne_eq,Decidable.not_not]at h1';obtain⟨hd,hck⟩:=h1';by_cases h2:24<zBo f
  ·rw[if_pos h2];unfold zBu;rw[if_neg h1,if_pos h2]
  ·rw[if_neg h2];have h0:=zPS hs hd hck (by omega);generalize hb:zBu ds f=q at*;obtain⟨g,e⟩:=q;simp only at h0;subst h0;obtain⟨V,hS⟩:=zTA hb;obtain⟨A,F⟩:=zHH hd (zDX hck).2 ds [] [] (by simp) (by simp) (Good.nil ds)
   have hc:zAQ ds (ze ds f ds [] []).2 (ze ds f ds [] []).1=g:=by
    rw[<-V.canon];exact zHf (zBn hd) A V.good F.rng V.rng λc hc=>by rw[F.says c hc,hS c hc];rfl
   unfold zAg;have hlen:=V.len;rw[<-zIm,hc,if_neg (by omega)]
end Go.Proofs.YtonmdbdopchkaaaGreatDoor
