/- Texts W18 V1 V4. -/
import Derived.Test.YtonmdbdopchkaaaGreatDoorM23
import Derived.Test.YtonmdbdopchkaaaGreatDoorM21
import Derived.Test.YtonmdbdopchkaaaGreatDoorM24
set_option linter.all false
namespace Go.Proofs.YtonmdbdopchkaaaGreatDoor
open Go.RowKit
set_option maxHeartbeats 8000000
set_option maxRecDepth 100000
theorem zDX{ds:List zC}{f:Fm}(h:zBN ds f=0):zCD f=false∧zq (zY ds) f=0:=by
 unfold zBN at h;cases hl:zCD f
 ·rw[hl]at h;exact⟨rfl,by simpa using h⟩
 ·rw[hl]at h;simp at h
structure RkT (t:TypeId) (w:World) (M:Nat) (all:List zB) (F Z:Nat->Prop):Prop where
 ex:∃v csl,Blk w M t #[v]∧w.ownsRow 0 51 4 v all.length csl.flatten∧NdL Z w all csl∧(∀k,v.ownBlock=some k->F k∧k≠M)
 fM:F M
 sep:∀b,Z b->¬F b
 liveF:∀b,F b->b<w.heap.size
 liveZ:∀b,Z b->b<w.heap.size
theorem RkT.keep{t:TypeId}{w w':World}{M:Nat}{all:List zB}{F Z:Nat->Prop}(h:RkT t w M all F Z)(hk:zA (λb=>F b∨Z b) w w'):RkT t w' M all F Z:=by
 obtain⟨⟨v,csl,h1,h2,h3,h5⟩,hM,hs,hF,hZ⟩:=h;refine⟨⟨v,csl,h1.keep hk (Or.inl hM),?_,NdL.keep (hk.mono λb _ hb=>Or.inr hb) h3,h5⟩,hM,hs,λb hb=>Nat.lt_of_lt_of_le (hF b hb) hk.size,λb hb=>Nat.lt_of_lt_of_le (hZ b hb) hk.size⟩;refine⟨h2.1,?_⟩;rcases h2.2 with h|⟨g,cap,cur,e,hb,hg,h⟩
 ·exact Or.inl h
 ·have hgF:=(h5 g (by rw[e];rfl)).1;exact Or.inr ⟨g,cap,cur,e,hb,(hk.block g (hF g hgF) (Or.inl hgF)).trans hg,h⟩
theorem RkT.below{t:TypeId}{w w':World}{M:Nat}{all:List zB}{F Z:Nat->Prop}(h:RkT t w M all F Z)(hb:Below w.heap.size w w'):RkT t w' M all F Z:=h.keep (.of_below hb)
theorem RkT.more{t:TypeId}{w:World}{M:Nat}{all:List zB}{F Z Z':Nat->Prop}(h:RkT t w M all F Z)(hz:∀b,Z b->Z' b)(hs:∀b,Z' b->¬F b)(hl:∀b,Z' b->b<w.heap.size):RkT t w M all F Z':=by
 obtain⟨⟨v,csl,h1,h2,h3,h5⟩,hM,_,hF,_⟩:=h;exact⟨⟨v,csl,h1,h2,NdL.mono hz h3,h5⟩,hM,hs,hF,hl⟩
theorem RkT.new(t:TypeId)(w:World):RkT t (w.alloc (.cells #[.slice none 0 0] t)) w.heap.size [] (λb=>b=w.heap.size) (λ_=>False):=
 ⟨⟨.slice none 0 0,[],Blk.new w _ _,World.ownsRow_nil _ _ _ _,trivial,λk hk=>by cases hk⟩,rfl,λb h=>h.elim,λb hb=>by subst hb;simp,λb h=>h.elim⟩
theorem RkT.nodes{t:TypeId}{w:World}{M:Nat}{all:List zB}{F Z:Nat->Prop}(h:RkT t w M all F Z)(hlen:all.length≤1000000):∃A cap,Blk w M t #[.slice A all.length cap]∧zO (λb=>F b∨Z b) w (.slice A all.length cap) all:=by
 obtain⟨⟨v,csl,h1,h2,h3,h5⟩,hM,hs,hF,hZ⟩:=h;obtain⟨A,cap,rfl,hc,hm,hr⟩:=Row.of_own h2 (by decide);refine⟨A,cap,h1,A,cap,rfl,hc,hm,by omega,?_⟩
 cases all with
 |nil=>unfold zAT;trivial
 |cons n r=>
  have hne:csl.flatten≠[]:=by
   intro e;have:=NdL.size h3;rw[e]at this;simp at this
  obtain⟨b,off,rfl,-,hcell⟩:=hr hne;exact NdL.rows (Or.inl (h5 b rfl).1) (NdL.mono (λ_ h=>Or.inr h) h3) hcell
abbrev RkS:=RkT 84
def zKk(w:World)(M:Nat)(F Z:Nat->Prop)(r:Int × List zB)(e:Ending)(w':World):Prop:=
 e= .returned (.int .i64 r.1)∧(∃F',RkS w' M r.2 F' Z∧∀b,F' b->F b∨w.heap.size≤b)∧zA (λb=>¬F b) w w'
theorem zNm{w W w':World}{M:Nat}{F Z:Nat->Prop}{r:Int × List zB}{e:Ending}(hb:Below w.heap.size w W)(h:zKk W M F Z r e w'):zKk w M F Z r e w':=by
 obtain⟨he,⟨F',h1,h2⟩,h3⟩:=h;exact⟨he,⟨F',h1,λx hx=>(h2 x hx).imp id (λh=>Nat.le_trans hb.size h)⟩,(zA.of_below hb).trans h3⟩
theorem zH2{t:TypeId}{wa wx w5:World}{M:Nat}{all:List zB}{Fa Z Zn:Nat->Prop}{v v5:Value}{csl:List (List Value)}{n:zB}{cs:List Value}
  (hx:zA (λ_=>True) wa wx)(hsd:wx.heap.size=wa.heap.size+1)(h1:Blk wa M t #[v])(h3:NdL Z wa all csl)(h5:∀k,v.ownBlock=some k->Fa k∧k≠M)
  (hM:Fa M)(hs:∀x,Z x->¬Fa x)(hF:∀x,Fa x->x<wa.heap.size)(hZ:∀x,Z x->x<wa.heap.size)(hn:zd Zn wa cs n)(hzn:∀x,Zn x->¬Fa x∧x<wa.heap.size)
  (hg5:wx.grownBy w5 v.ownBlock)(hown5:w5.ownsRow 0 51 4 v5 (all.length+1) (csl.flatten++cs))
  (hat5:v5.ownBlock=v.ownBlock∨v5.ownBlock=some wx.heap.size):
  (∃F',RkT t (w5.setCell ⟨M,0,none⟩ v5) M (all++[n]) F' (λx=>Z x∨Zn x)∧∀x,F' x->Fa x∨wa.heap.size≤x)∧zA (λx=>¬Fa x) wa (w5.setCell ⟨M,0,none⟩ v5):=by
 have hk2:zA (λx=>¬Fa x) wa w5:=(hx.mono λ_ _ _=>trivial).grown hg5 (λk hk _ hx=>hx (h5 k hk).1);have hk3:zA (λx=>¬Fa x) wa (w5.setCell ⟨M,0,none⟩ v5):=hk2.setCell (λ_ hx=>hx hM) _;have hMlt:=h1.lt;have hsz5:=hg5.size
 have hv5:∀k,v5.ownBlock=some k->(Fa k∨wa.heap.size≤k)∧k≠M∧k<w5.heap.size∧(k<wa.heap.size->Fa k):=λk hk=>by
  have hlt:=(hown5.lt k hk).2;rcases hat5 with e|e
  ·rw[e]at hk;exact⟨Or.inl (h5 k hk).1,(h5 k hk).2,hlt,λ_=>(h5 k hk).1⟩
  ·rw[hk]at e;injection e with e;exact⟨Or.inr (by omega),by omega,hlt,λh=>by omega⟩
 have hM5:Blk w5 M t #[v]:=(h1.keep hx trivial).grown hg5 (λe=>(h5 M e).2 rfl);refine⟨⟨λx=>Fa x∨v5.ownBlock=some x,⟨⟨v5,csl++[cs],hM5.set_ 0 v5,?_,?_,λk hk=>⟨Or.inr hk,(hv5 k hk).2.1⟩⟩,Or.inl hM,?_,?_,?_⟩,?_⟩,hk3⟩
 ·have:=zl (Z:=λc=>c≠M) hown5 ((zA.refl _ _).setCell (p:=⟨M,0,none⟩) (λ_ h=>h rfl) v5) (λk hk=>(hv5 k hk).2.1);rw[List.length_append,List.length_singleton,List.flatten_append];simpa using this
 ·exact NdL.snoc ((hn.keep (hk3.mono λx _ hx=>(hzn x hx).1)).mono λx hx=>Or.inr hx) (NdL.mono (λx hx=>Or.inl hx) (NdL.keep (hk3.mono λx _ hx=>hs x hx) h3))
 ·rintro x hx (h|h)
  ·rcases hx with hx|hx
   ·exact hs x hx h
   ·exact(hzn x hx).1 h
  ·have h4:=(hv5 x h).2.2.2;rcases hx with hx|hx
   ·exact hs x hx (h4 (hZ x hx))
   ·exact(hzn x hx).1 (h4 (hzn x hx).2)
 ·rintro x (h|h)
  ·have:=hF x h;have:=hk3.size;omega
  ·have:=(hv5 x h).2.2.1;simpa[World.setCell]using this
 ·rintro x (h|h)
  ·have:=hZ x h;have:=hk3.size;omega
  ·have:=(hzn x h).2;have:=hk3.size;omega
 ·rintro x (h|h)
  ·exact Or.inl h
  ·exact(hv5 x h).1
theorem zSz{all:List zB}{n:zB}{k:Nat}(hk:k<all.length)(h:n∉all.take k)(e:all[k]=n):n∈all∧all.idxOf n=k:=by
 have hm:n∈all:=e▸List.getElem_mem hk;refine⟨hm,?_⟩;have hsp:all=all.take k++all[k]::all.drop (k+1):=by rw[<-List.drop_eq_getElem_cons hk];exact(List.take_append_drop k all).symm
 rw[hsp,List.idxOf_append,if_neg h,e,List.idxOf_cons_self,List.length_take];omega
theorem zLd(M:Nat)(all:List zB)(F Z Zn:Nat->Prop)(n:zB)(cs:List Value)(w:World)(h:RkS w M all F Z)(hn:zd Zn w cs n)(hz:∀b,Zn b->¬F b∧b<w.heap.size)(hlen:all.length≤1000000):
  Calls Tryz.prog 90 #[.pointer (some ⟨M,0,none⟩),.agg cs.toArray] w (zKk w M F (λb=>Z b∨Zn b) (zW all n)):=by
 have hn':=hn;obtain⟨vc,vk,rfl,-,hcn,hkn⟩:=hn;obtain⟨NC,nccap,rfl,-⟩:=hcn.form;obtain⟨NK,nkcap,rfl,-⟩:=hkn.form;obtain⟨A,cap,hMb,hN⟩:=h.nodes hlen;obtain⟨A0,cap0,hv0,hcap,hmax,hat⟩:=hN.open_;injection hv0 with e1 e2 e3;subst e1 e3;have HA:=hid hat;have HR:=hid h;have HM:=hid hMb;have HN:=hid hn';have HZN:=hid hz;have HLN:=hid hlen;have hMl:=h.liveF M h.fM;have HX:=hid (Blk.new w 51 #[.bool n.leaf,.int .i64 n.fact,.slice NC n.cuts.length nccap,.slice NK n.kids.length nkcap]);clear hat h hMb hN hn' hz hcn hkn;go_enter Tryz.func90,Tryz.ntmps90
 go_wp2;go_loopw[5] (λi wr=>∃k:Nat,k≤all.length∧i= .int .i64 k∧Blk wr w.heap.size 51 #[.bool n.leaf,.int .i64 n.fact,.slice NC n.cuts.length nccap,.slice NK n.kids.length nkcap]∧Below w.heap.size w wr∧Hid (n∉all.take k)) (λi _=>all.length-(intOf i).toNat);case atStart=>exact⟨0,Nat.zero_le _,rfl,HX.out,zE w _,by simp[Hid]⟩
 case round=>
  obtain⟨k,hk,rfl,hgb,hbel,hnt⟩:=hrel;have t0:wr.cell? ⟨M,0,none⟩=some (.slice A all.length cap):=(hbel.cell (p:=⟨M,0,none⟩) hMl).trans (HM.out.cell 0);have tl:M<wr.heap.size:=Nat.lt_of_lt_of_le hMl hbel.size;have n0:=hgb.at0;have n1:=hgb.at1;have n2:=hgb.at2;have n3:=hgb.at3;have nl:=hgb.lt;by_cases hlt:k<all.length
  ·obtain⟨bb,off,vc',vk',rfl,hz,hbb,c0,c1,c2,c3,hf,hc,hkk⟩:=HA.out k hlt;obtain⟨VC,ccap,rfl,-⟩:=hc.form;obtain⟨VK,kcap,rfl,-⟩:=hkk.form;have hx:∀{p:Nat}{o:Nat}{u:Value},p<w.heap.size->w.cell? ⟨p,o,none⟩=some u->wr.cell? ⟨p,o,none⟩=some u:=λ{p o u} hp h=>brd hbel h hp;replace c0:=hx hbb c0;replace c1:=hx hbb c1;replace c2:=hx hbb c2;replace c3:=hx hbb c3;have hbr:=lt_of_cell c0;have HS:=hid (λW(hW:Below w.heap.size w W)=>zGM _ Zn all[k] n [.bool all[k].leaf,.int .i64 all[k].fact,.slice VC all[k].cuts.length ccap,.slice VK all[k].kids.length kcap] [.bool n.leaf,.int .i64 n.fact,.slice NC n.cuts.length nccap,.slice NK n.kids.length nkcap] W (zd.keep ⟨_,_,rfl,hf,hc,hkk⟩ (.of_below hW)) (HN.out.keep (.of_below hW)));have HIX:=hid (λe=>zSz hlt hnt.out e)
   have HNX:=hid (show all[k]≠n->n∉all.take (k+1) from λe hm=>by
    rw[zAw hlt,List.mem_append]at hm;rcases hm with hm|hm
    ·exact hnt.out hm
    ·simp at hm;exact e hm.symm)
   (have hk1:((k:Nat):Int)<(all.length:Int):=by omega);(have hk0:(0:Int)≤((k:Nat):Int):=by omega);have HB:=hid (And.intro hgb hbel);clear hx hbel hgb hf hc hkk;obtain⟨x,hxe⟩:∃x,x=all[k]:=⟨_,rfl⟩;rw[<-hxe]at HS HIX HNX c0 c1 c2 c3;clear hxe;by_cases hxy:x=n
   ·have HE:=hid (HIX.out hxy);have HS2:=HS.out;rw[decide_eq_true hxy]at HS2;have HS3:=hid HS2;clear HS HS2 hxy HNX HIX hnt;go_wp2
    go_region_held3(λw'=>w'.cell? ⟨M,0,none⟩=some (.slice (some ⟨bb,off,none⟩) all.length cap)∧w'.cell? ⟨bb,off+k*4,none⟩=some (.bool x.leaf)∧w'.cell? ⟨bb,off+k*4+1,none⟩=some (.int .i64 x.fact)∧w'.cell? ⟨bb,off+k*4+2,none⟩=some (.slice VC x.cuts.length ccap)∧w'.cell? ⟨bb,off+k*4+3,none⟩=some (.slice VK x.kids.length kcap)∧w'.cell? ⟨w.heap.size,0,none⟩=some (.bool n.leaf)∧w'.cell? ⟨w.heap.size,1,none⟩=some (.int .i64 n.fact)∧w'.cell? ⟨w.heap.size,2,none⟩=some (.slice NC n.cuts.length nccap)∧w'.cell? ⟨w.heap.size,3,none⟩=some (.slice NK n.kids.length nkcap))
      (first|exact⟨p0,p1,p2,p3,p4,p5,p6,p7,p8⟩|(refine⟨?_,?_,?_,?_,?_,?_,?_,?_,?_⟩<;>go_keep))
      (first
       |(go_at_call 53;refine(HS3.out _ HB.out.2.drew).mono ?_;rintro e w1 ⟨rfl,hb1⟩;have p0:=brd hb1 t0 tl;have p1:=brd hb1 c0 hbr;have p2:=brd hb1 c1 hbr;have p3:=brd hb1 c2 hbr;have p4:=brd hb1 c3 hbr;have p5:=brd hb1 n0 nl;have p6:=brd hb1 n1 nl;have p7:=brd hb1 n2 nl;have p8:=brd hb1 n3 nl))
    have hbw:=HB.out.2.drew.trans (hb1.mono HB.out.2.size);clear p0 p1 p2 p3 p4 p5 p6 p7 p8 hb1;go_wp2;go_ret;unfold zW;rw[if_pos HE.out.1,HE.out.2];exact⟨rfl,⟨F,(HR.out.below hbw).more (λb hb=>Or.inl hb) (λb hb=>hb.elim (HR.out.sep b) λhb=>(HZN.out b hb).1) (λb hb=>hb.elim ((HR.out.below hbw).liveZ b) λhb=>Nat.lt_of_lt_of_le (HZN.out b hb).2 hbw.size),λb hb=>Or.inl hb⟩,.of_below hbw⟩
   ·have HE:=hid (HNX.out hxy);have HS2:=HS.out;rw[decide_eq_false hxy]at HS2;have HS3:=hid HS2;clear HS HS2 hxy HNX HIX hnt;go_wp2
    go_region_held3(λw'=>w'.cell? ⟨M,0,none⟩=some (.slice (some ⟨bb,off,none⟩) all.length cap)∧w'.cell? ⟨bb,off+k*4,none⟩=some (.bool x.leaf)∧w'.cell? ⟨bb,off+k*4+1,none⟩=some (.int .i64 x.fact)∧w'.cell? ⟨bb,off+k*4+2,none⟩=some (.slice VC x.cuts.length ccap)∧w'.cell? ⟨bb,off+k*4+3,none⟩=some (.slice VK x.kids.length kcap)∧w'.cell? ⟨w.heap.size,0,none⟩=some (.bool n.leaf)∧w'.cell? ⟨w.heap.size,1,none⟩=some (.int .i64 n.fact)∧w'.cell? ⟨w.heap.size,2,none⟩=some (.slice NC n.cuts.length nccap)∧w'.cell? ⟨w.heap.size,3,none⟩=some (.slice NK n.kids.length nkcap))
      (first|exact⟨p0,p1,p2,p3,p4,p5,p6,p7,p8⟩|(refine⟨?_,?_,?_,?_,?_,?_,?_,?_,?_⟩<;>go_keep))
      (first
       |(go_at_call 53;refine(HS3.out _ HB.out.2.drew).mono ?_;rintro e w1 ⟨rfl,hb1⟩;have p0:=brd hb1 t0 tl;have p1:=brd hb1 c0 hbr;have p2:=brd hb1 c1 hbr;have p3:=brd hb1 c2 hbr;have p4:=brd hb1 c3 hbr;have p5:=brd hb1 n0 nl;have p6:=brd hb1 n1 nl;have p7:=brd hb1 n2 nl;have p8:=brd hb1 n3 nl))
    have zh:=hid (And.intro (HB.out.1.drew.below hb1 nl) (HB.out.2.drew.trans (hb1.mono HB.out.2.size)));clear p0 p1 p2 p3 p4 p5 p6 p7 p8 hb1;go_wp2;go_roundw;(case rel=>exact⟨k+1,by omega,by go_num,zh.out.1,zh.out.2,HE⟩);case measure=>simp[intOf];omega
  ·(obtain rfl:k=all.length:=by omega);(have hin:n∉all:=by have:=hnt.out;rwa[List.take_length]at this);obtain⟨⟨v,csl,h1,h2,h3,h5⟩,hM,hs,hF,hZ⟩:=HR.out.below hbel;(obtain rfl:v= .slice A all.length cap:=by have:=(h1.cell 0).symm.trans t0;simpa using this);have zGX:=hid (zEy HN.out);have HOW:=hid (show wr.drew.ownsRow 0 51 4 (.slice A all.length cap) all.length csl.flatten from h2);have MKX:=hid (λ(w5:World)(row:Option Nat)(hg:(wr.alloc (.cells #[.bool n.leaf,.int .i64 n.fact,.slice NC n.cuts.length nccap,.slice NK n.kids.length nkcap] 51)).drew.grownBy w5 (Value.slice A all.length cap).ownBlock)=>(h1.alloc (.cells #[.bool n.leaf,.int .i64 n.fact,.slice NC n.cuts.length nccap,.slice NK n.kids.length nkcap] 51)).drew.grown hg (λe=>(h5 M e).2 rfl))
   have HG:=hid (λ(w5:World)(v5:Value)(ho:w5.ownsRow 0 51 4 v5 (all.length+1) (csl.flatten++[.bool n.leaf,.int .i64 n.fact,.slice NC n.cuts.length nccap,.slice NK n.kids.length nkcap]))(hg:(wr.alloc (.cells #[.bool n.leaf,.int .i64 n.fact,.slice NC n.cuts.length nccap,.slice NK n.kids.length nkcap] 51)).drew.grownBy w5 (Value.slice A all.length cap).ownBlock)(ha:v5.ownBlock=(Value.slice A all.length cap).ownBlock ∨v5.ownBlock=some (wr.alloc (.cells #[.bool n.leaf,.int .i64 n.fact,.slice NC n.cuts.length nccap,.slice NK n.kids.length nkcap] 51)).drew.heap.size)=>
    zH2 (((zA.refl _ _).alloc _).drew) (by show(wr.alloc _).heap.size =_;simp) h1 h3 h5 hM hs hF hZ (HN.out.keep (.of_below hbel)) (λx hx=>⟨(HZN.out x hx).1,Nat.lt_of_lt_of_le (HZN.out x hx).2 hbel.size⟩) hg ho ha)
   have HBL:=hid hbel;have HNI:=hid hin;have hlen:=HLN.out;clear h1 h2 h3 h5 hM hs hF hZ hbel hnt hin hgb HM HA HX;go_wp2;go_region_law(refine zDd rfl (.tmp 29) (.tmp 31) _ rfl Tryz.underlying28 Tryz.eNode rfl (HOW.out.alloc _) rfl (news:=[.bool n.leaf,.int .i64 n.fact,.slice NC n.cuts.length nccap,.slice NK n.kids.length nkcap]) rfl (zLt (cs:=[.bool n.leaf,.int .i64 n.fact,.slice NC n.cuts.length nccap,.slice NK n.kids.length nkcap]) (t:=51) (g:=wr.heap.size) (by have:=Blk.new wr 51 #[.bool n.leaf,.int .i64 n.fact,.slice NC n.cuts.length nccap,.slice NK n.kids.length nkcap];exact this.drew)) zGX.out (by unfold maxLen;omega) (by omega) (Nat.zero_le _) ?_;intro v5 w5 hown5 hg5 hat5;obtain⟨g5,cap5,hv5⟩:=zAZ hown5;subst hv5;have hM5:=MKX.out _ none hg5;have d0:=hM5.cell 0;have d1:=hM5.frozen 0;have d2:=hM5.lt)
   all_goals
    have HE:=HG.out _ _ hown5 hg5 hat5;have HNE:=hid (zNm (r:=(((all.length:Nat):Int),all++[n])) HBL.out ⟨rfl,HE⟩);clear HE hown5 hg5 hat5;go_wp2;go_ret;unfold zW;rw[if_neg HNI.out];exact HNE.out
theorem zUL{l:List Int}{v:Int}:∀{k:Nat}(hk:k<l.length),nx (l.drop k) v=if v<l[k]then 0 else nx (l.drop (k+1)) v+1:=λ{k} hk=>by
 rw[List.drop_eq_getElem_cons hk,nx]
theorem zH3(Z:zD)(n:zB)(cs:List Value)(v:Int)(w:World)(hn:zd Z w cs n):
  Calls Tryz.prog 60 #[.agg cs.toArray,.int .i64 v] w λe w'=>e= .returned (.int .i64 (nxL n v))∧Below w.heap.size w w':=by
 obtain⟨vc,vk,rfl,hf,hc,hk⟩:=hn;have HC:=hid hc;obtain⟨⟨A,cap,rfl,hcap,hcap2,hlen,-⟩,-⟩:=hc;obtain⟨⟨AK,capK,rfl,hcapK,hcapK2,hlenK,-⟩,-⟩:=hk;have HNL:Hid (nxL n v=if nx n.cuts v<n.cuts.length then(nx n.cuts v:Int)else(n.kids.length:Int)-1):=hid rfl;have HB0:=hid (zE w (.cells #[.bool n.leaf,.int .i64 n.fact,.slice A n.cuts.length cap,.slice AK n.kids.length capK] 51));have HX0:=hid (Blk.new w 51 #[.bool n.leaf,.int .i64 n.fact,.slice A n.cuts.length cap,.slice AK n.kids.length capK]);go_enter Tryz.func60,Tryz.ntmps60
 go_wp2;go_loopw[5] (λi wr=>∃k:Nat,k≤n.cuts.length∧i= .int .i64 k∧Blk wr w.heap.size 51 #[.bool n.leaf,.int .i64 n.fact,.slice A n.cuts.length cap,.slice AK n.kids.length capK]∧Below w.heap.size w wr∧Hid (nx n.cuts v=k+nx (n.cuts.drop k) v)) (λi _=>n.cuts.length-(intOf i).toNat);case atStart=>exact⟨0,Nat.zero_le _,rfl,HX0.out,HB0.out,hid (by simp)⟩
 case round=>
  obtain⟨k,hk,rfl,hbx,hbel,hnx⟩:=hrel;have c2:=hbx.at2;have c3:=hbx.at3;have cl:=hbx.lt;have HB:=hid (And.intro hbx hbel);by_cases hlt:k<n.cuts.length
  ·obtain⟨cb,coff,rfl,-,hcb,hcc⟩:=HC.out.at_ hlt;replace hcc:=brd hbel hcc hcb;have ccl:=lt_of_cell hcc;(have hk1:((k:Nat):Int)<(n.cuts.length:Int):=by omega);(have hk0:(0:Int)≤((k:Nat):Int):=by omega);have hd:=zUL (v:=v) hlt;by_cases hv:v<n.cuts[k]
   ·(have e1:decide (v<n.cuts[k])=true:=by simpa using hv);have HE:=hid (HNL.out.trans (by rw[hnx.out,hd,if_pos hv,Nat.add_zero,if_pos hlt]));clear hd hnx hbx hbel hv;generalize n.cuts[k]=y at*;go_wp2;go_ret;exact⟨zAD HE.out.symm,HB.out.2⟩
   ·(have e1:decide (v<n.cuts[k])=false:=by simpa using hv);have HN:=hid (show nx n.cuts v=(k+1)+nx (n.cuts.drop (k+1)) v from by rw[hnx.out,hd,if_neg hv];omega);clear hd hnx hbx hbel hv;generalize n.cuts[k]=y at*;go_wp2;go_roundw;(case rel=>exact⟨k+1,by omega,by go_num,HB.out.1,HB.out.2,HN⟩);case measure=>simp[intOf];omega
  ·(obtain rfl:k=n.cuts.length:=by omega);have HE:=hid (HNL.out.trans (by rw[hnx.out,List.drop_length,nx,Nat.add_zero,if_neg (by omega)]));clear hnx hbx hbel;go_wp2;go_ret;exact⟨zAD HE.out.symm,HB.out.2⟩
theorem zI2(Z:zD)(v vc:Value)(g:List zB)(c:List Int)(w:World)(hg:zO Z w v g)(hc:zL Z w vc c):
  Calls Tryz.prog 18 #[.agg #[v],vc] w λe w'=>e= .returned (.bool (zCT g c g.length 0))∧Below w.heap.size w w':=by
 obtain⟨A,cap,rfl,hcap,hlen,hat⟩:=hg.open_;have HAT:=hid hat;have HC:=hid hc;obtain⟨⟨C,ccap,rfl,hccap,hccap2,hclen,-⟩,-⟩:=hc;clear hat hg;go_enter Tryz.func18,Tryz.ntmps18
 go_wp2;go_loopw[5,6] (λa i wr=>∃(k:Nat)(x:Int),k≤g.length∧i= .int .i64 k∧a= .int .i64 x∧wr.cell? ⟨w.heap.size,0,none⟩=some (.slice A g.length cap)∧Below w.heap.size w wr∧Hid (zCT g c g.length 0=zCT g c (g.length-k) x)) (λ_ i _=>g.length-(intOf i).toNat);case atStart=>exact⟨0,0,Nat.zero_le _,rfl,rfl,by simp,zE w _,rfl⟩
 case round=>
  obtain⟨k,x,hk,rfl,rfl,h0,hbel,hres⟩:=hrel;by_cases hlt:k<g.length
  ·have h0l:=lt_of_cell h0;have zAF:=hid hbel;have zT:=hid (show zCT g c g.length 0=zCT g c (g.length-(k+1)+1) x from by rw[hres.out,show g.length-(k+1)+1=g.length-k by omega]);rw[zJX]at zT;clear hres;by_cases hx:x<0∨(g.length:Int)≤x
   ·rw[if_pos hx]at zT;by_cases hx0:x<0
    ·(have e1:decide (x<0)=true:=by simpa using hx0);clear hx hx0 hbel;go_wp2;go_ret;rw[zT.out];exact⟨rfl,zAF.out⟩
    ·(have e1:decide (x<0)=false:=by simpa using hx0);(have e2:decide ((g.length:Int)≤x)=true:=by simp;omega);clear hx hx0 hbel;go_wp2;go_ret;rw[zT.out];exact⟨rfl,zAF.out⟩
   ·rw[if_neg hx]at zT;simp only[not_or,Int.not_lt,Int.not_le]at hx;obtain⟨i,rfl⟩:=Int.eq_ofNat_of_zero_le hx.1;(have hi:i<g.length:=by have:=hx.2;omega);rw[zAI hi]at zT;obtain⟨b,off,vcu,vki,rfl,hz,hb,c0,c1,c2,c3,hf,hcu,hki⟩:=HAT.out i hi;(have hbr:b<wr.heap.size:=by have:=hbel.size;omega);replace c0:=brd hbel c0 hb;replace c1:=brd hbel c1 hb;replace c2:=brd hbel c2 hb;replace c3:=brd hbel c3 hb;have HKI:=hid hki;have HCU:=hid hcu;have HHF:=hid hf;(have hi1:(i:Int)<(g.length:Int):=by omega);(have hi0:(0:Int)≤(i:Int):=by omega);(have e1:decide ((i:Int)<0)=false:=by simp);(have e2:decide ((g.length:Int)≤(i:Int))=false:=by simp;omega);obtain⟨⟨KU,kucap,rfl,-,-,hkulen,-⟩,-⟩:=hcu;obtain⟨⟨K,kcap,rfl,hkcap,-,hklen,-⟩,-⟩:=hki;generalize g[i]=n at*;clear hx hbel hf;by_cases hkn:n.kids=[]
    ·rw[if_pos hkn]at zT;(have e3:((n.kids.length:Int)==0)=true:=by simp[hkn]);clear hkn;go_wp2;go_ret;rw[zT.out];exact⟨rfl,zAF.out.alloc zAF.out.size _⟩
    ·rw[if_neg hkn]at zT;(have e3:((n.kids.length:Int)==0)=false:=by simp[hkn]);have hnn:=zKZ hkn (c.getD n.fact.toNat 0);clear hkn;by_cases hf:n.fact<0∨(c.length:Int)≤n.fact
     ·rw[if_pos hf]at zT;by_cases hf0:n.fact<0
      ·(have e4:decide (n.fact<0)=true:=by simpa using hf0);clear hf hf0 hnn;go_wp2;go_ret;rw[zT.out];exact⟨rfl,zAF.out.alloc zAF.out.size _⟩
      ·(have e4:decide (n.fact<0)=false:=by simpa using hf0);(have e5:decide ((c.length:Int)≤n.fact)=true:=by simp;omega);clear hf hf0 hnn;go_wp2;go_ret;rw[zT.out];exact⟨rfl,zAF.out.alloc zAF.out.size _⟩
     ·rw[if_neg hf]at zT;simp only[not_or,Int.not_lt,Int.not_le]at hf;(have e4:decide (n.fact<0)=false:=by simp;omega);(have e5:decide ((c.length:Int)≤n.fact)=false:=by simp;omega);obtain⟨fi,hfi⟩:=Int.eq_ofNat_of_zero_le hf.1;(have hfl:fi<c.length:=by have:=hf.2;omega);obtain⟨cb,coff,rfl,-,hcb,hcc⟩:=HC.out.at_ hfl;have hcc2:=brd zAF.out hcc hcb;have hcbr:=lt_of_cell hcc2;(have hcv:c.getD n.fact.toNat 0=c[fi]:=by rw[hfi];simp[List.getD_eq_getElem?_getD,hfl]);rw[hcv]at zT hnn;(have hfi1:(fi:Int)<(c.length:Int):=by omega);(have hfi0:(0:Int)≤(fi:Int):=by omega);have HN:=hid (zH3 Z n [.bool n.leaf,.int .i64 n.fact,.slice KU n.cuts.length kucap,.slice K n.kids.length kcap] c[fi]);have HNR:=hid (show zd Z w [.bool n.leaf,.int .i64 n.fact,.slice KU n.cuts.length kucap,.slice K n.kids.length kcap] n from⟨_,_,rfl,HHF.out,HCU.out,HKI.out⟩);have HNX:=hid (show nxL n c[fi]<(n.kids.length:Int)->n.kids.getD (nxL n c[fi]).toNat 0=n.kids.getD (nxL n c[fi]).toNat 0 from λ_=>rfl);clear hf hcc hcb hcv;generalize c[fi]=cv at*;generalize hq:nxL n cv=q at*;obtain⟨nl,nf,nc,nk⟩:=n;simp only at*;subst hfi;go_wp2;have HNW:=hid (λW(hW:Below w.heap.size w W)=>HN.out W (HNR.out.keep (.of_below hW)));have HBA:=hid (λo=>(zAF.out.alloc zAF.out.size o));clear HN HNR HAT c0 c1 c2 c3
      go_region_held3(λw'=>w'.cell? ⟨wr.heap.size,0,none⟩=some (.bool nl)∧w'.cell? ⟨wr.heap.size,1,none⟩=some (.int .i64 fi)∧w'.cell? ⟨wr.heap.size,2,none⟩=some (.slice KU nc.length kucap)∧w'.cell? ⟨wr.heap.size,3,none⟩=some (.slice K nk.length kcap)∧w'.cell? ⟨cb,coff+fi,none⟩=some (.int .i64 cv)) (first|exact⟨p0,p1,p2,p3,p4⟩|(refine⟨?_,?_,?_,?_,?_⟩<;>go_keep))
       (first
        |(go_at_call 60;refine(HNW.out _ (HBA.out _).drew).mono ?_;rintro e w1 ⟨rfl,hb1⟩;have hx1:=(Blk.new wr 51 #[.bool nl,.int .i64 (fi:Int),.slice KU nc.length kucap,.slice K nk.length kcap]).drew.below hb1 (by simp[World.drew]);have p0:w1.cell? ⟨wr.heap.size,0,none⟩=some (.bool nl):=hx1.cell 0;have p1:w1.cell? ⟨wr.heap.size,1,none⟩=some (.int .i64 fi):=hx1.cell 1;have p2:w1.cell? ⟨wr.heap.size,2,none⟩=some (.slice KU nc.length kucap):=hx1.cell 2;have p3:w1.cell? ⟨wr.heap.size,3,none⟩=some (.slice K nk.length kcap):=hx1.cell 3;have p4:w1.cell? ⟨cb,coff+fi,none⟩=some (.int .i64 cv):=((hb1.cell (p:=⟨cb,coff+fi,none⟩) (show cb<(wr.alloc _).heap.size from by rw[World.size_alloc];omega)).trans (zCa hcc2 _))))
      have hbw1:Below w.heap.size w w1:=(HBA.out _).drew.trans (hb1.mono (HBA.out _).drew.size);have HB1:=hid (And.intro hbw1 ((hb1.cell (p:=⟨w.heap.size,0,none⟩) (show w.heap.size<(wr.alloc _).heap.size from by rw[World.size_alloc];omega)).trans (zCa h0 _)));have hwl:=hx1.lt;clear hbw1 hb1 hx1 h0 hcc2 p0 p1 p2 p4 zAF HBA HNW;by_cases hql:(nk.length:Int)≤q
      ·rw[if_pos hql]at zT;(have e6:decide ((nk.length:Int)≤q)=true:=by simpa using hql);clear hql;go_wp2;go_ret;rw[zT.out];exact⟨rfl,HB1.out.1⟩
      ·rw[if_neg hql]at zT;(have e6:decide ((nk.length:Int)≤q)=false:=by simpa using hql);obtain⟨qn,rfl⟩:=Int.eq_ofNat_of_zero_le hnn;(have hqn:qn<nk.length:=by omega);obtain⟨kb,koff,rfl,-,hkb,hkc⟩:=HKI.out.at_ hqn;have hkc2:=brd HB1.out.1 hkc hkb;have hkbr:=lt_of_cell hkc2;(have hkv:nk.getD ((qn:Nat):Int).toNat 0=nk[qn]:=by simp[List.getD_eq_getElem?_getD,hqn]);rw[hkv]at zT;(have hq1:((qn:Nat):Int)<(nk.length:Int):=by omega);(have hq0:(0:Int)≤((qn:Nat):Int):=by omega);clear hkc hkb hql hkv hq hnn HNX;generalize nk[qn]=kx at*;go_wp2;go_roundw;(case rel=>exact⟨k+1,kx,by omega,by go_num,rfl,HB1.out.2,HB1.out.1,zT⟩);case measure=>simp[intOf];omega
  ·(obtain rfl:k=g.length:=by omega);have zT:=hid hres.out;rw[Nat.sub_self]at zT;clear hres;go_wp2;go_ret;rw[zT.out];exact⟨rfl,hbel⟩
end Go.Proofs.YtonmdbdopchkaaaGreatDoor
