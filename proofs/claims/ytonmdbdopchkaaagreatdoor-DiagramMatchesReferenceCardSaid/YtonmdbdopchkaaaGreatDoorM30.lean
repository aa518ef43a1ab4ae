/- Texts W38 W45 W76 W77. -/
import Derived.Test.YtonmdbdopchkaaaGreatDoorM24
import Derived.Test.YtonmdbdopchkaaaGreatDoorM21
import Derived.Laws.BitsLemmas
set_option linter.all false
namespace Go.Proofs.YtonmdbdopchkaaaGreatDoor
open Go.RowKit
set_option maxHeartbeats 8000000
set_option maxRecDepth 100000
theorem Tryz.egValid1:∀args w,(callFunc 54 args).run Tryz.prog w= .ok (.enter 54 args) w:=enters_of Tryz.func54 (by kernel_rfl) rfl
theorem zQf(Gb Db:Nat)(Z:zD)(vg vd:Value)(g:List zB)(ds:List zC)(n:zB)(cs:List Value)(w:World)(hG:w.cell? ⟨Gb,0,none⟩=some vg)(hD:w.cell? ⟨Db,0,none⟩=some vd)
  (hg:zO Z w vg g)(hn:zd Z w cs n)(hd:Facts Z w vd ds):
  Calls Tryz.prog 54 #[.agg cs.toArray,.pointer (some ⟨Gb,0,none⟩),.pointer (some ⟨Db,0,none⟩)] w λe w'=>e= .returned (.bool (!zc ds g n))∧Below w.heap.size w w':=by
 have hb:=λo=>zE w o
 have HC:=hid (λo=>zQW Z vg vd g ds n cs (w.alloc o) (hg.keep (.of_below (hb o))) (hn.keep (.of_below (hb o))) (hd.keep (.of_below (hb o))));have hGl:=lt_of_cell hG;have hDl:=lt_of_cell hD;obtain⟨vc,vk,rfl,-,hc,hk⟩:=hn;obtain⟨C,cc,rfl,-⟩:=hc.form;obtain⟨K,kc,rfl,-⟩:=hk.form;obtain⟨A,cap,rfl,-⟩:=hg;obtain⟨⟨D,dcap,rfl,-⟩,-⟩:=hd;clear hc hk;go_enter Tryz.func54,Tryz.ntmps54
 go_wp2_with fail
 refine(HC.out _).mono ?_;rintro e w1 ⟨rfl,hb1⟩;have hbw:=zy (zE w _) hb1;go_wp2;go_ret;exact⟨rfl,hbw⟩
theorem zPh{lo hi:Int}:∀{l:List Int},zk lo hi l->(l.length:Int)≤hi-lo∨l=[]
 |[],_=>Or.inr rfl
 |c::r,h=>by
  have ih:=zPh h.2.2;have h1:=h.1;have h2:=h.2.1;left;rcases ih with ih|rfl
  ·simp only[List.length_cons];omega
  ·simp only[List.length_cons,List.length_nil];omega
theorem zC9{f:zC}(h:zAv f=true):0≤f.lo∧f.lo≤f.hi∧f.hi≤1000000:=by
 unfold zAv at h;simp only[Bool.and_eq_true,Bool.or_eq_true,beq_iff_eq,decide_eq_true_eq]at h;omega
theorem zEO{ds:List zC}(h:zR ds=true){f:zC}(hf:f∈ds):zAv f=true:=by
 unfold zR at h;simp only[Bool.and_eq_true,List.all_eq_true]at h;exact h.1.1 f hf
theorem zUN{ds:List zC}{i:Int}(h0:0≤i)(h1:i<ds.length):fAt ds i∈ds:=by
 unfold fAt;rw[List.getD_eq_getElem?_getD,List.getElem?_eq_getElem (by omega)];exact List.getElem_mem _
theorem zQg{ds:List zC}{g:List zB}{n:zB}(hd:zR ds=true)(h:zFW ds g n):n.cuts.length≤1000000∧n.kids.length≤1000001:=by
 rcases h with h|h
 ·rw[h.1,h.2.2];simp
 ·have hb:=zC9 (zEO hd (zUN h.f0 h.f1));have hl:=h.len;rcases zPh h.asc with e|e
  ·omega
  ·rw[e]at hl⊢;simp at hl⊢;omega
def zUe(Z:zD)(w0 wr:World)(M Gb:Nat)(vg:Value)(g:List zB)(k:Nat):Prop:=
 ∃F Z',MkS wr M (g.take k) F Z'∧(∀b,F b->M≤b)∧(∀b,Z' b->Z b∧b<w0.heap.size)∧Below w0.heap.size w0 wr∧wr.cell? ⟨Gb,0,none⟩=some vg∧(g.take k).Nodup
theorem zBy(Z:zD)(vg vd:Value)(g:List zB)(ds:List zC)(w:World)(hg:zO Z w vg g)(hd:Facts Z w vd ds)(htab:zBJ w.heap.size w):
  Calls Tryz.prog 15 #[.agg #[vg],.agg #[vd]] w λe w'=>e= .returned (.bool (zAB ds g))∧Below w.heap.size w w':=by
 have eg:=Tryz.egValid1;have hb2:=(zE w (.cells #[vg] 30)).alloc (by simp) (.cells #[vd] 27);have HV:=hid (zF3 Z vd ds _ (hd.keep (.of_below hb2)));have hbg:=(Blk.new w 30 #[vg]).alloc (.cells #[vd] 27);have hbd:=Blk.new' (w.alloc (.cells #[vg] 30)) 27 #[vd] (n:=w.heap.size+1) (by simp);have zh:=hid hb2;have HBG:=hid hbg;have HBD:=hid hbd;have HG:=hid hg;have HD:=hid hd;have HT:=hid htab;have HU:=hid (show zAB ds g=(zR ds&&decide (g≠[])&&decide (g.length≤4000)&&g.all (zc ds g)&&decide g.Nodup&&decide (zAQ ds g 0=g)) from rfl);obtain⟨A,cap,rfl,hcap,hlen,hat⟩:=hg.open_;obtain⟨D,dcap,rfl,-,-,-⟩:=hd.open_;have HAT:=hid hat;clear hb2 hbg hbd hg hd htab hat;go_enter Tryz.func15,Tryz.ntmps15
 by_cases hv:zR ds=true
 ·rw[hv]at HV HU;have HVD:=hid hv;simp only[Bool.true_and]at HU;clear hv;go_wp2_with fail
  refine HV.out.mono ?_;rintro e w1 ⟨rfl,hb1⟩;have hbg:=HBG.out.below hb1 HBG.out.lt;have hbd:=HBD.out.below hb1 HBD.out.lt;have g0:=hbg.at0;have g0l:=hbg.lt;have d0l:=hbd.lt;have zT1:=hid hbg;have zVE:=hid hbd;have HBW:=hid (zh.out.trans (hb1.mono zh.out.size));clear hbg hbd hb1 HBG HBD zh HV;by_cases he:g=[]
  ·(have e1:((g.length:Int)==0)=true:=by simp[he]);rw[decide_eq_false (show ¬g≠[] by simp[he])]at HU;simp only[Bool.false_and]at HU;clear he;go_wp2;go_ret;rw[HU.out];exact⟨rfl,HBW.out⟩
  have e1:((g.length:Int)==0)=false:=by simp[he]
  rw[decide_eq_true he]at HU;simp only[Bool.true_and]at HU;have HNE:=hid he;clear he;by_cases hl:g.length≤4000
  ·(have e2:decide ((4000:Int)<(g.length:Int))=false:=by simp;omega);(have e2':decide (4000<g.length)=false:=by simp;omega);rw[decide_eq_true hl]at HU;simp only[Bool.true_and]at HU;have HR:=hid (zAT.imp (R:=zd Z w) (R':=zd Z w) (λ_ _ h=>h) (zA.of_below HBW.out) (λ_ h=>h) (by obtain⟨_,_,e,_,_,_,h⟩:=HG.out;injection e with e1;subst e1;exact h))
   have HC:=hid (zHb 54 #[.pointer (some ⟨w.heap.size,0,none⟩),.pointer (some ⟨w.heap.size+1,0,none⟩)] Tryz.egValid1 (zd Z w) Z g (λi=> !zc ds g (g.getD i zBO)) A cap w1
    (λcs x h=>by obtain⟨a,b,e,_⟩:=h;exact⟨_,_,_,_,e⟩) HR.out (by omega) (λi hi cs hcs W hW=>by
     have hww:=HBW.out.trans (hW.mono HBW.out.size);have:=zQf w.heap.size (w.heap.size+1) Z _ _ g ds g[i] cs W (brd hW g0 g0l) ((hW.cell (p:=⟨w.heap.size+1,0,none⟩) d0l).trans (zVE.out.cell 0)) (HG.out.keep (.of_below hww)) (hcs.keep (.of_below hww)) (HD.out.keep (.of_below hww));(have e:g.getD i zBO=g[i]:=by simp[List.getD_eq_getElem?_getD,hi]);show Calls Tryz.prog 54 _ W λe W'=>e= .returned (.bool (!zc ds g (g.getD i zBO)))∧Below W.heap.size W W'
     rw[e];exact this))
   have hall:decide ((0:Int)≤firstIdx (λi=> !zc ds g (g.getD i zBO)) g.length 0)= !g.all (zc ds g):=by
    rcases zDP (λi=> !zc ds g (g.getD i zBO)) g.length 0 with⟨k,h0,h1,h2,h3,e⟩|⟨h0,e⟩
    ·rw[e];have hk:k<g.length:=by omega
     have:g.all (zc ds g)=false:=by
      rw[List.all_eq_false];refine⟨g[k],List.getElem_mem hk,?_⟩;(have e:g.getD k zBO=g[k]:=by simp[List.getD_eq_getElem?_getD,hk]);simp only[e]at h2;simpa using h2
     rw[this];simp
    ·rw[e]
     have:g.all (zc ds g)=true:=by
      rw[List.all_eq_true];intro x hx;obtain⟨k,hk,rfl⟩:=List.getElem_of_mem hx;have:=h0 k (Nat.zero_le _) (by omega);(have e:g.getD k zBO=g[k]:=by simp[List.getD_eq_getElem?_getD,hk]);simp only[e]at this;simpa using this
     rw[this];rfl
   rw[hall]at HC;clear hall HR
   cases hp:g.all (zc ds g)with
   |false=>
    rw[hp]at HC HU;simp only[Bool.not_false,Bool.false_and]at HC HU;clear hp hl;(go_wp2_with fail);refine HC.out.mono ?_;rintro e w2 ⟨rfl,hb2⟩;have hbw:=HBW.out.trans (hb2.mono HBW.out.size);go_wp2;go_ret;rw[HU.out];exact⟨rfl,hbw⟩
   |true=>
    rw[hp]at HC HU;simp only[Bool.not_true,Bool.true_and]at HC HU;have HPR:=hid (show ∀n∈g,zFW ds g n from λn hn=>zFL.1 (List.all_eq_true.1 hp n hn));have HL:=hid hl;clear hp hl;(go_wp2_with fail);refine HC.out.mono ?_;rintro e w2 ⟨rfl,hb2⟩;have hbg:=zT1.out.below hb2 zT1.out.lt;have g0:=hbg.at0;have g0l:=hbg.lt;have zT2:=hid (HBW.out.trans (hb2.mono HBW.out.size));clear hbg hb2 zT1 zVE HBW HC;go_wp2;have HB3:=hid (And.intro g0 (And.intro g0l zT2.out.size));clear g0;go_loopw[38] (λi wr=>∃k:Nat,k≤g.length∧i= .int .i64 k∧zUe Z w wr w2.heap.size w.heap.size (.slice A g.length cap) g k) (λi _=>g.length-(intOf i).toNat)
    case atStart=>
     exact⟨0,Nat.zero_le _,rfl,λb=>b=w2.heap.size,λ_=>False,MkS.new w2,λb h=>by omega,λb h=>h.elim,zT2.out.alloc zT2.out.size _,zCa HB3.out.1 _,by simp⟩
    case round=>
     obtain⟨k,hk,rfl,F,Z',hmk,hF,hZ',hbel,hg0,hnd⟩:=hrel;by_cases hlt:k<g.length
     ·obtain⟨b,off,vc,vk,rfl,hz,hb,c0,c1,c2,c3,hf,hc,hkk⟩:=HAT.out k hlt;obtain⟨VC,ccap,rfl,-⟩:=hc.form;obtain⟨VK,kcap,rfl,-⟩:=hkk.form;replace c0:=brd hbel c0 hb;replace c1:=brd hbel c1 hb;replace c2:=brd hbel c2 hb;replace c3:=brd hbel c3 hb;have hbr:=lt_of_cell c0;have hpl:=zQg HVD.out (HPR.out _ (List.getElem_mem hlt));have hsz:=HB3.out.2.2
      have HN:=hid (λW(hW:Below wr.heap.size wr W)=>zGH w2.heap.size (g.take k) F Z' (λb=>Z b∧b<w.heap.size) g[k] [.bool g[k].leaf,.int .i64 g[k].fact,.slice VC g[k].cuts.length ccap,.slice VK g[k].kids.length kcap] W (hmk.below hW)
       ⟨⟨_,_,rfl,hf,(hc.live.keep (.of_below (hbel.trans (hW.mono hbel.size)))),(hkk.live.keep (.of_below (hbel.trans (hW.mono hbel.size))))⟩,λb hb=>⟨λh=>by have:=hF b h;omega,by have:=hbel.size;have:=hW.size;omega⟩,by omega,by omega⟩
       (by have:=HL.out;rw[List.length_take];omega) ((HT.out.on (hbel.trans (hW.mono hbel.size))).mono (by have:=hbel.size;have:=hW.size;omega)))
      have HNX:=hid (λ(W w':World)(hW:Below wr.heap.size wr W)(hN:g[k]∉g.take k)(hP:zCC W w2.heap.size F (λb=>Z' b∨(Z b∧b<w.heap.size)) (zW (g.take k) g[k]) (.returned (.int .i64 (zW (g.take k) g[k]).1)) w')=>
       (show zUe Z w w' w2.heap.size w.heap.size (.slice (some ⟨b,off,none⟩) g.length cap) g (k+1) from by
        obtain⟨-,⟨F',h1,h2⟩,h3⟩:=hP;rw[show(zW (g.take k) g[k]).2=g.take (k+1) from by unfold zW;rw[if_neg hN,List.take_succ_eq_append_getElem hlt]]at h1;refine⟨F',_,h1,λb h=> ?_,λb h=> ?_,?_,?_,?_⟩
        ·rcases h2 b h with h|h
         ·exact hF b h
         ·have:=hmk.liveF _ hmk.fM;have:=hW.size;omega
        ·rcases h with h|h
         ·exact hZ' b h
         ·exact h
        ·have hbW:=hbel.trans (hW.mono hbel.size);exact hbW.trans ⟨h3.os,h3.tape,h3.output,h3.size,λb hb=>h3.block b (by have:=hbW.size;omega) (λh=>by have:=hF b h;omega)⟩
        ·exact h3.cell (p:=⟨w.heap.size,0,none⟩) (λh=>by have h':w2.heap.size≤w.heap.size:=hF _ h;have:=HB3.out.2.1;omega) (brd hW hg0 (lt_of_cell hg0))
        ·rw[List.take_succ_eq_append_getElem hlt,List.nodup_append]
         exact⟨hnd,by simp,λa ha b hb e=>by simp at hb;subst hb;exact hN (e▸ha)⟩))
      have HND:=hid (show g[k]∈g.take k->g.Nodup->False from λhm hn=>by
       (have hd:g[k]∈g.drop k:=by rw[List.drop_eq_getElem_cons hlt];exact List.mem_cons_self);generalize g[k]=nd at*;rw[<-List.take_append_drop k g,List.nodup_append]at hn
       exact hn.2.2 _ hm nd hd rfl)
      have HIX:=hid (show(g[k]∈g.take k->(zW (g.take k) g[k]).1=((g.take k).idxOf g[k]:Nat)∧(g.take k).idxOf g[k]<k)∧(g[k]∉g.take k->(zW (g.take k) g[k]).1=(k:Nat)) from
       ⟨λh=>⟨by unfold zW;rw[if_pos h],by have:=List.idxOf_lt_length_of_mem h;rw[List.length_take]at this;omega⟩,λh=>by unfold zW;rw[if_neg h,List.length_take];simp;omega⟩)
      have HPB:=hid (λ(W w':World)(hW:Below wr.heap.size wr W)(e:Ending)(hP:zCC W w2.heap.size F (λb=>Z' b∨(Z b∧b<w.heap.size)) (zW (g.take k) g[k]) e w')=>(show Below w.heap.size w w' from by
        obtain⟨-,-,h3⟩:=hP;have hbW:=hbel.trans (hW.mono hbel.size)
        exact hbW.trans ⟨h3.os,h3.tape,h3.output,h3.size,λb hb=>h3.block b (by have:=hbW.size;omega) (λh=>by have:=hF b h;omega)⟩))
      have hM:=hmk.liveF _ hmk.fM;(have hk1:((k:Nat):Int)<(g.length:Int):=by omega);(have hk0:(0:Int)≤((k:Nat):Int):=by omega);have HBE:=hid (λo=>zE wr o);clear hmk hF hZ' hbel hg0 hnd hf hc hkk hb hpl;generalize hr:zW (g.take k) g[k]=r at*;by_cases hm:g[k]∈g.take k
      ·have hix:=HIX.out.1 hm;have hnd:=HND.out hm;rw[decide_eq_false (show ¬g.Nodup from λh=>hnd h)]at HU;simp only[Bool.false_and]at HU;obtain⟨q,hq,hqk⟩:∃q:Nat,r.1=(q:Int)∧q<k:=⟨_,hix.1,hix.2⟩;(have e5:(r.1 !=(k:Int))=true:=by rw[hq];simp;omega);clear hm hix hnd HIX HND HNX hr hq;generalize g[k]=nd at*;(go_wp2_with fail);refine(HN.out _ (HBE.out _)).mono ?_;rintro e w3 ⟨rfl,hp3⟩;have HP3:=hid (HPB.out _ _ (HBE.out _) _ ⟨rfl,hp3⟩);clear hp3;go_wp2;go_ret;rw[HU.out];exact⟨rfl,HP3.out⟩
      ·have hix:=HIX.out.2 hm;(have e5:(r.1 !=(k:Int))=false:=by rw[hix];simp);have zG0:=hid (λ(W w':World)(hW:Below wr.heap.size wr W) hP=>HNX.out W w' hW hm hP);clear hm hix HIX HND HNX hr;generalize g[k]=nd at*;(go_wp2_with fail);refine(HN.out _ (HBE.out _)).mono ?_;rintro e w3 ⟨rfl,hp3⟩;have HP3:=hid (zG0.out _ _ (HBE.out _) ⟨rfl,hp3⟩);clear hp3;go_wp2;go_roundw;(case rel=>exact⟨k+1,by omega,by go_num,HP3.out⟩);case measure=>simp[intOf];omega
     ·(obtain rfl:k=g.length:=by omega);rw[List.take_length]at hmk hnd;have hgood:Good ds g:=⟨HPR.out,hnd⟩;have hrng:Rng g 0:=⟨Int.le_refl _,by have:=List.length_pos_iff.2 HNE.out;omega⟩;rw[decide_eq_true hnd]at HU;simp only[Bool.true_and]at HU;have hord:=(zCf hgood hrng).length_le;(have hfs:zAg ds g 0=(zAQ ds g 0,0):=by unfold zAg;rw[if_neg (by have:=HL.out;omega)]);have HF:=hid (zJy ds g hgood (by have:=HL.out;omega) w2.heap.size F Z' 0 wr hrng hmk);rw[hfs]at HF;have hM:=hmk.liveF _ hmk.fM;have HB4:=hid (And.intro hbel hg0);have hg0l:=lt_of_cell hg0;clear hnd hgood hrng hord hfs hmk hF hZ' hbel;(go_wp2_with fail);refine HF.out.mono ?_;rintro e w3 ⟨v3,rfl,hn3,hb3⟩;have hg3:=brd hb3 hg0 hg0l;have hg3l:=lt_of_cell hg3;have hbw3:=HB4.out.1.trans (hb3.mono HB4.out.1.size);have hn3':=hn3;obtain⟨A3,cap3,rfl,-⟩:=hn3';have HS:=hid (λo=>zMJ _ Z (.slice A3 (zAQ ds g 0).length cap3) (.slice A g.length cap) (zAQ ds g 0) g (w3.alloc o) (hn3.keep ((zA.refl _ _).alloc o)) (HG.out.keep (.of_below (hbw3.alloc hbw3.size o))));have HB5:=hid hbw3;clear hn3 hb3 hbw3 hg0;(go_wp2_with fail);refine(HS.out _).mono ?_;rintro e w4 ⟨rfl,hb4⟩;have hbw4:=(HB5.out.alloc HB5.out.size _).trans (hb4.mono (by have:=HB5.out.size;simp;omega));go_wp2;go_ret;rw[HU.out];exact⟨rfl,hbw4⟩
  ·(have e2:decide ((4000:Int)<(g.length:Int))=true:=by simp;omega);(have e2':decide (4000<g.length)=true:=by simp;omega);rw[decide_eq_false hl]at HU;simp only[Bool.false_and]at HU;clear hl;go_wp2;go_ret;rw[HU.out];exact⟨rfl,HBW.out⟩
 ·have hv':zR ds=false:=by simpa using hv
  rw[hv']at HV HU;simp only[Bool.false_and]at HU;clear hv hv';go_wp2_with fail
  refine HV.out.mono ?_;rintro e w1 ⟨rfl,hb1⟩;have HBW:=hid (zh.out.trans (hb1.mono zh.out.size));go_wp2;go_ret;rw[HU.out];exact⟨rfl,HBW.out⟩
theorem Tryz.egLeast1:∀args w,(callFunc 51 args).run Tryz.prog w= .ok (.enter 51 args) w:=enters_of Tryz.func51 (by kernel_rfl) rfl
theorem zQh(Gb:Nat)(Z:zD)(vg:Value)(g:List zB)(k:Int)(w:World)(hG:w.cell? ⟨Gb,0,none⟩=some vg)(hg:zO Z w vg g)(hk:Rng g k):
  Calls Tryz.prog 51 #[.int .i64 k,.pointer (some ⟨Gb,0,none⟩)] w λe w'=>e= .returned (.bool (live g k))∧Below w.heap.size w w':=by
 have hGl:=lt_of_cell hG;obtain⟨A,cap,rfl,hcap,hlen,hat⟩:=hg.open_;obtain⟨n,rfl⟩:=Int.eq_ofNat_of_zero_le hk.1;have hn:n<g.length:=by have:=hk.2;omega
 obtain⟨b,off,vc,vk,rfl,-,hb,c0,-,-,c3,-,-,hkk⟩:=hat n hn;obtain⟨VK,kcap,rfl,-⟩:=hkk.form;have HU:=hid (show live g (n:Int)=(decide (g[n].kids ≠[])||g[n].leaf) from by unfold live;rw[zAI hn]);have hn1:((n:Nat):Int)<(g.length:Int):=by omega
 have hn0:(0:Int)≤((n:Nat):Int):=by omega
 clear hg hat hkk hk;generalize g[n]=m at*;go_enter Tryz.func51,Tryz.ntmps51
 by_cases he:m.kids=[]
 ·have e1:decide ((0:Int)<(m.kids.length:Int))=false:=by simp[he]
  have e1':decide (0<m.kids.length)=false:=by simp[he]
  rw[decide_eq_false (by simp[he]),Bool.false_or]at HU;clear he;go_wp2;go_ret;rw[HU.out];exact⟨rfl,Below.refl _ _⟩
 ·have e1:decide ((0:Int)<(m.kids.length:Int))=true:=by simp;exact List.length_pos_iff.2 he
  have e1':decide (0<m.kids.length)=true:=by simp;exact List.length_pos_iff.2 he
  rw[decide_eq_true he,Bool.true_or]at HU;clear he;go_wp2;go_ret;rw[HU.out];exact⟨rfl,Below.refl _ _⟩
theorem zNQ(p:Int->Bool)(l:List Int)(h:l.findIdx p<l.length):firstIdx (λi=>p (l.getD i 0)) l.length 0=(l.findIdx p:Nat):=by
 refine zCS (λj _ hj=> ?_) (Nat.zero_le _) (by omega) ?_
 ·have hj':j<l.length:=by omega
  have:=List.not_of_lt_findIdx hj;simp only[List.getD_eq_getElem?_getD,List.getElem?_eq_getElem hj',Option.getD_some];simpa using this
 ·have:=List.findIdx_getElem (w:=h);simp only[List.getD_eq_getElem?_getD,List.getElem?_eq_getElem h,Option.getD_some];exact this
def zMU(w:World)(r:Option (List Int))(e:Ending)(w':World):Prop:=
 ∃v,e= .returned (.tuple #[v,.bool r.isSome])∧zL (λb=>w.heap.size≤b) w' v (r.getD [])∧Below w.heap.size w w'
theorem zHE(g:List zB)(k:Nat)(i:Int)(c:List Int):zAu g (k+1) i c=if(nAt g i).kids =[]then(i,c)
  else zAu g k ((nAt g i).kids.getD ((nAt g i).kids.findIdx (live g)) 0)
   (if 0<(nAt g i).kids.findIdx (live g)then c.set (nAt g i).fact.toNat ((nAt g i).cuts.getD ((nAt g i).kids.findIdx (live g)-1) 0)else c):=rfl
theorem zKq(Z:zD)(vg vd:Value)(g:List zB)(ds:List zC)(w:World)(hg:zO Z w vg g)(hd:Facts Z w vd ds)(htab:zBJ w.heap.size w):
  Calls Tryz.prog 11 #[.agg #[vg],.agg #[vd]] w (zMU w (zDR ds g)):=by
 have eg:=Tryz.egLeast1;have hb2:=(zE w (.cells #[vg] 30)).alloc (by simp) (.cells #[vd] 27);have hbg:=(Blk.new w 30 #[vg]).alloc (.cells #[vd] 27);have hbd:=Blk.new' (w.alloc (.cells #[vg] 30)) 27 #[vd] (n:=w.heap.size+1) (by simp);have HV:=hid (zBy Z vg vd g ds _ (hg.keep (.of_below hb2)) (hd.keep (.of_below hb2)) ((htab.on hb2).mono hb2.size));have zh:=hid hb2;have HBG:=hid hbg;have HBD:=hid hbd;have HG:=hid hg;have HD:=hid hd;have HU:=hid (show zDR ds g=if zAB ds g=true then(if(nAt g (zAu g (ds.length+1) 0 (zBA ds)).1).leaf =true then some (zAu g (ds.length+1) 0 (zBA ds)).2 else none)else none from rfl);obtain⟨A,cap,rfl,hcap,hlen,hat⟩:=hg.open_;obtain⟨D,dcap,rfl,-,hdlen,-⟩:=hd.open_;have HAT:=hid hat;clear hb2 hbg hbd hg hd htab hat;go_enter Tryz.func11,Tryz.ntmps11
 by_cases hv:zAB ds g=true
 ·rw[hv]at HV;have HU2:=hid (HU.out.trans (if_pos hv));have zEZ:=hid (zAk.1 hv);clear hv HU;go_wp2_with fail
  refine HV.out.mono ?_;rintro e w1 ⟨rfl,hb1⟩;have hbg:=HBG.out.below hb1 HBG.out.lt;have hbd:=HBD.out.below hb1 HBD.out.lt;have d0:=hbd.at0;have d0l:=hbd.lt;have hbw:=zh.out.trans (hb1.mono zh.out.size);have HL:=hid (zNK Z (.slice D ds.length dcap) ds w1 (HD.out.keep (.of_below hbw)));have HW1:=hid (And.intro hbg hbw);clear hbg hbd hb1 hbw HV HBG HBD zh;go_wp2_with fail
  refine HL.out.mono ?_;rintro e w2 ⟨vc,rfl,hown2,hb2⟩;have hlo:zBA ds=ds.map zC.lo:=zCm zEZ.out.dom;have hlol:(zBA ds).length =ds.length:=by rw[hlo,List.length_map]
  obtain⟨AC,ccap,rfl,-,-,-⟩:=Row.of_own hown2 (by decide);rw[hlol]at hown2;have hbg:=HW1.out.1.below hb2 HW1.out.1.lt;have g0:=hbg.at0;have g0l:=hbg.lt;have hs1:=HW1.out.2.size;have hbw:=HW1.out.2.trans (hb2.mono hs1);have zVG:=hid (And.intro hbg hbw);have zVl:=hid hown2;have hrl:=zCG (ds:=ds) (g:=g) 0;clear d0 d0l hb2 HL hbg hbw hown2 hlo;simp only[hlol];go_wp2;clear g0 g0l;go_loopw[7] (λa wr=>∃(x:Int)(c:List Int)(m:Nat),a= .int .i64 x∧Rng g x∧zBr ds g x<m∧c.length=ds.length∧wr.ownsRow w1.heap.size 3 1 (.slice AC ds.length ccap) ds.length (c.map (.int .i64))∧Blk wr w.heap.size 30 #[.slice A g.length cap]∧Below w.heap.size w wr∧(∀y∈c,I64 y)∧Hid (zAu g (ds.length+1) 0 (zBA ds)=zAu g m x c)) (λa _=>zBr ds g (intOf a))
  case atStart=>
   refine⟨0,zBA ds,ds.length+1,rfl,zEZ.out.rng,by omega,hlol,zVl.out,zVG.out.1,zVG.out.2,λy hy=> ?_,rfl⟩;rw[zCm zEZ.out.dom]at hy;obtain⟨f,hf,rfl⟩:=List.mem_map.1 hy;have:=zC9 (zEO zEZ.out.dom hf);constructor<;>omega
  case round=>
   (rename World=>wv);obtain⟨x,c,m,rfl,hx,hrm,hcl,hown,hbg,hbel,hci,hres⟩:=hrel;have g0:=hbg.at0;have g0l:=hbg.lt;obtain⟨m,rfl⟩:∃m',m=m'+1:=⟨m-1,by omega⟩;have hres':=hres.out.trans (zHE g m x c);have HRK:=hid (λ(hk:(nAt g x).kids ≠[])=>And.intro (zEZ.out.good.inner hx hk) (And.intro (zEZ.out.good.some_live (zBn zEZ.out.dom) hx hk) (λk hk2=>zEZ.out.good.rank_kid hx (k:=k) hk2)));obtain⟨n,rfl⟩:=Int.eq_ofNat_of_zero_le hx.1;(have hn:n<g.length:=by have:=hx.2;omega);have hnat:=zAI hn;obtain⟨b,off,vcu,vki,rfl,-,hb,c0,c1,c2,c3,hf,hcu,hki⟩:=HAT.out n hn;(have hbr:b<wv.heap.size:=by have:=hbel.size;omega);replace c0:=brd hbel c0 hb;replace c1:=brd hbel c1 hb;replace c2:=brd hbel c2 hb;replace c3:=brd hbel c3 hb;have HCU:=hid hcu;have HKI:=hid hki;obtain⟨VC,vcap,rfl,hcul⟩:=hcu.form;obtain⟨VK,kcap,rfl,hkil⟩:=hki.form;(have hn1:((n:Nat):Int)<(g.length:Int):=by omega);(have hn0:(0:Int)≤((n:Nat):Int):=by omega);rw[hnat]at hres' HRK;have zT:=hid hres';have HB:=hid (And.intro hbg (And.intro hbel (And.intro hown (And.intro hci hcl))));have HRM:=hid hrm;clear hres hres' hnat hbg hbel hown hci hcl hcu hki hrm hf;by_cases hk0:g[n].kids =[]
   ·have hr:=zT.out;rw[if_pos hk0]at hr;(have e1:decide ((0:Int)<(g[n].kids.length :Int))=false:=by simp[hk0]);(have e1':decide (0<g[n].kids.length)=false:=by simp[hk0]);have HR:=hid (show zDR ds g=if g[n].leaf =true then some c else none from by rw[HU2.out,hr];simp only;rw[zAI hn]);clear hk0 hr zT HRK hx;generalize g[n]=nd at*
    cases hlf:nd.leaf with
    |true=>
     rw[hlf]at HR c0;simp only[if_true]at HR;go_wp2;refine bodyPost_ret (v:= .tuple #[.slice AC ds.length ccap,.bool true]) (by simp[results,Tryz.results11,go_sem]) rfl ?_;rw[HR.out];refine⟨_,rfl,?_,HB.out.2.1⟩;have ho:=HB.out.2.2.1;have hio:=zL.of_own (xs:=c) (by rw[<-HB.out.2.2.2.2]at ho;exact ho) HB.out.2.2.2.1 (by have:=HB.out.2.2.2.2;omega);rw[HB.out.2.2.2.2]at hio;exact hio.mono λb hb=>by omega
    |false=>
     rw[hlf]at HR c0;simp only[Bool.false_eq_true,if_false]at HR;go_wp2;refine bodyPost_ret (v:= .tuple #[.slice none 0 0,.bool false]) (by simp[results,Tryz.results11,go_sem]) rfl ?_;rw[HR.out];exact⟨_,rfl,zL.nil _ _,HB.out.2.1⟩
   ·have hr:=zT.out;rw[if_neg hk0]at hr;have hrk:=HRK.out hk0;(have e1:decide ((0:Int)<(g[n].kids.length :Int))=true:=by simp;exact List.length_pos_iff.2 hk0);have e1':decide (0<g[n].kids.length)=true:=by simp;exact List.length_pos_iff.2 hk0
    have HI:=hid (λ(W:World)(hW:Below wv.heap.size wv W)=>zGG 51 #[.pointer (some ⟨w.heap.size,0,none⟩)] Tryz.egLeast1 Z (.slice VK g[n].kids.length kcap) g[n].kids (live g) W (HKI.out.keep (.of_below (HB.out.2.1.trans (hW.mono HB.out.2.1.size))))
     (λk hk W2 hW2=>zQh w.heap.size Z (.slice (some ⟨b,off,none⟩) g.length cap) g k W2 ((hW2.cell (p:=⟨w.heap.size,0,none⟩) (show w.heap.size<W.heap.size from by have:=hW.size;omega)).trans (brd hW g0 g0l)) (HG.out.keep (.of_below (HB.out.2.1.trans ((hW.mono HB.out.2.1.size).trans (hW2.mono (by have:=HB.out.2.1.size;have:=hW.size;omega)))))) (hrk.2.2 k hk).1))
    rw[zNQ _ _ hrk.2.1]at HI;have hq:=hrk.2.1;have hlen:=hrk.1.len;have hf0:=hrk.1.f0;have hf1:=hrk.1.f1;have hkm:=zAf hq;have hrk2:=hrk.2.2 _ hkm;have zHo:=hid (And.intro hrk2.1 (And.intro hrk2.2 HRM.out));have HR:=hid hr;clear hr hrk zT HRK HRM hk0 hkm hrk2 hx;generalize hqq:g[n].kids.findIdx (live g)=q at*;have hnd:nAt g ((n:Nat):Int)=g[n]:=zAI hn;have zD1:=hid hlen;clear hqq hnd hlen;generalize g[n]=nd at*;obtain⟨nl,nf,nc,nk⟩:=nd;simp only at*;obtain⟨fi,rfl⟩:=Int.eq_ofNat_of_zero_le hf0;(have hfi:fi<ds.length:=by omega);(have hfi1:((fi:Nat):Int)<(ds.length:Int):=by omega);(have hfi0:(0:Int)≤((fi:Nat):Int):=by omega);(have hq1:((q:Nat):Int)<(nk.length:Int):=by omega);(have hq0:(0:Int)≤((q:Nat):Int):=by omega);have HBE:=hid (λo=>zE wv o);(go_wp2_with fail);refine(HI.out _ (HBE.out _)).mono ?_;rintro e w3 ⟨rfl,hb3⟩;have hx3:=(Blk.new wv 51 #[.bool nl,.int .i64 (fi:Int),.slice VC nc.length vcap,.slice VK nk.length kcap]).below hb3 (by simp);have hbw3:Below wv.heap.size wv w3:=zy (zE wv _) hb3;have hww3:=HB.out.2.1.trans (hbw3.mono HB.out.2.1.size);have n1:=hx3.at1;have n2:=hx3.at2;have n3:=hx3.at3;have n1l:=hx3.lt;obtain⟨kb,koff,rfl,-,hkb,hkc⟩:=HKI.out.at_ hq;(have hkv:nk.getD q 0=nk[q]:=by simp[List.getD_eq_getElem?_getD,hq]);rw[hkv]at HR zHo;have hg3:=HB.out.1.below hbw3 HB.out.1.lt;have hown3:w3.ownsRow w1.heap.size 3 1 (.slice AC ds.length ccap) ds.length (c.map (.int .i64)):=zl HB.out.2.2.1 (zA.of_below (Z:=λ_=>True) hbw3) (λ_ _=>trivial);(have hclt:=λk hk=>HB.out.2.2.1.lt k hk);have HW3:=hid (And.intro hg3 (And.intro hww3 (And.intro hown3 hx3)));clear c0 c1 c2 c3 g0 g0l hb3 hbw3 hww3 hg3 hown3 HI;generalize nk[q]=kx at*;by_cases hqp:0<q
    ·(have e2:decide ((0:Int)<((q:Nat):Int))=true:=by simp;exact hqp);(have e2':decide (0<q)=true:=by simp;exact hqp);rw[if_pos hqp]at HR;obtain⟨p,rfl⟩:∃p,q=p+1:=⟨q-1,by omega⟩;rw[Nat.add_sub_cancel]at HR;(have hpc:p<nc.length:=by have h:=zD1.out;omega);obtain⟨ub,uoff,rfl,-,hub,huc⟩:=HCU.out.at_ hpc;(have huv:nc.getD p 0=nc[p]:=by simp[List.getD_eq_getElem?_getD,hpc]);have hui:=HCU.out.fit _ (List.getElem_mem hpc);rw[huv]at HR;have hu3:=brd HW3.out.2.1 huc hub;have hu3l:=lt_of_cell hu3;(have hp1:((p:Nat):Int)<(nc.length:Int):=by omega);(have hp0:(0:Int)≤((p:Nat):Int):=by omega);have hUI:=hid hui;(have hwp:IntKind.i64.wrap ((p:Nat):Int)=((p:Nat):Int):=by rw[IntKind.wrap_i64];omega);clear hqp huc huv hub hui;generalize nc[p]=u at*
     have hA:∃gc,AC=some ⟨gc,0,none⟩∧w1.heap.size≤gc:=by
      rcases HW3.out.2.2.1.2 with⟨_,h0⟩|⟨gc,c',cur',hv,hge,_⟩
      ·omega
      ·injection hv with hv;exact⟨gc,hv,hge⟩
     obtain⟨gc,rfl,hgc⟩:=hA
     have hcs:(c.map (Value.int .i64))[fi]? =some (.int .i64 (c.getD fi 0)):=by
      have hcl:=HB.out.2.2.2.2;rw[List.getElem?_map,List.getElem?_eq_getElem (by omega)];simp[List.getD_eq_getElem?_getD,show fi<c.length by omega]
     obtain⟨hcx,hcf⟩:=zIR HW3.out.2.2.1 hcs;have hcxl:=lt_of_cell hcx;have hlt3:=(HB.out.2.2.1.lt gc rfl).2;have zFd:=hid (zJx (show w3.drew.ownsRow w1.heap.size 3 1 (.slice (some ⟨gc,0,none⟩) ds.length ccap) ds.length (c.map (.int .i64)) from HW3.out.2.2.1) fi (.int .i64 u));have hks:zA (λb=>b≠gc) w3 (w3.drew.setCell ⟨gc,fi,none⟩ (.int .i64 u)):=(zA.refl _ _).drew.setCell (λ_ h=>h rfl) _;have hs3:=HW3.out.2.1.size;have hbox:=HW1.out.1.lt;have zC6:=hid (And.intro (HW3.out.1.keep hks (by omega)) (And.intro (show Below w.heap.size w (w3.drew.setCell ⟨gc,fi,none⟩ (.int .i64 u)) from HW3.out.2.1.trans ⟨hks.os,hks.tape,hks.output,hks.size,λb hb=>hks.block b (by omega) (by omega)⟩) (HW3.out.2.2.2.keep hks (by omega))));(have hk3:kb≠gc:=by omega);have k3:=hks.cell (p:=⟨kb,koff+(p+1),none⟩) hk3 (brd HW3.out.2.1 hkc hkb);have HK3:=hid k3;go_wp2;refine zAO 10 (λW=>W.cell? ⟨wv.heap.size,1,none⟩=some (.int .i64 (fi:Int))∧W.cell? ⟨wv.heap.size,2,none⟩=some (.slice (some ⟨ub,uoff,none⟩) nc.length vcap)∧W.cell? ⟨ub,uoff+p,none⟩=some (.int .i64 u)) (by kernel_rfl) ?_;have hS:(λW:World=>W.cell? ⟨wv.heap.size,1,none⟩=some (.int .i64 (fi:Int))∧W.cell? ⟨wv.heap.size,2,none⟩=some (.slice (some ⟨ub,uoff,none⟩) nc.length vcap)∧W.cell? ⟨ub,uoff+p,none⟩=some (.int .i64 u)) w3.drew:=⟨n1,n2,hu3⟩;have hcx6:w3.drew.cell? ⟨gc,fi,none⟩=some (.int .i64 (c.getD fi 0)):=hcx;have hcf6:w3.drew.frozen? ⟨gc,fi,none⟩=false:=hcf;have hcl6:gc<w3.drew.heap.size:=hcxl;clear hcx hcf hcxl n1 n2 n3 n1l hu3 hu3l k3 hks hcs;generalize w3.drew=w6 at*
     (refine tkZ 0 ?_ hS ?_ ?_;rotate_left;intro w;go_simp;(try with_reducible rfl);simp only[nr])
     (refine tkZ 1 ?_ hS ?_ ?_;rotate_left;intro w;go_simp;(try with_reducible rfl);simp only[nr])
     (refine tkS 2 ?_ hS ?_ ?_;rotate_left;intro w hSw;obtain⟨h1,h2,h3⟩:=hSw;go_simp;(try with_reducible rfl);simp only[nr])
     (refine tkZ 3 ?_ hS ?_ ?_;rotate_left;intro w;go_simp;(try with_reducible rfl);simp only[nr])
     (refine tkS 4 ?_ hS ?_ ?_;rotate_left;intro w hSw;obtain⟨h1,h2,h3⟩:=hSw;go_simp;(try with_reducible rfl);simp only[nr])
     (refine tkZ 5 ?_ hS ?_ ?_;rotate_left;intro w;go_simp;(try with_reducible rfl);simp only[nr])
     (refine tkZ 6 ?_ hS ?_ ?_;rotate_left;intro w;go_simp;(try with_reducible rfl);simp only[nr])
     (refine tkZ 7 ?_ hS ?_ ?_;rotate_left;intro w;go_simp;(try with_reducible rfl);simp only[nr])
     (refine tkS 8 ?_ hS ?_ ?_;rotate_left;intro w hSw;obtain⟨h1,h2,h3⟩:=hSw;go_simp;(try with_reducible rfl);simp only[nr])
     (refine tkZ 9 ?_ hS ?_ ?_;rotate_left;intro w;go_simp;(try with_reducible rfl);simp only[nr])
     refine wS1 10 (λK hK=> ?_);(go_wp2_with fail);refine hK _ _ (Or.inl rfl) ?_;clear hK K hS hcx6 hcf6 hcl6
     (try simp only[nr])
     refine wSd ?_ _;have n3:(w6.setCell ⟨gc,fi,none⟩ (.int .i64 u)).cell? ⟨wv.heap.size,3,none⟩=some (.slice (some ⟨kb,koff,none⟩) nk.length kcap):=zC6.out.2.2.cell 3;have n3l:=zC6.out.2.2.lt;have k3:=HK3.out;have k3l:=lt_of_cell k3;generalize w6.setCell ⟨gc,fi,none⟩ (.int .i64 u)=w7 at*;go_wp2;go_roundw
     case rel=>
      refine⟨kx,c.set fi u,m,rfl,zHo.out.1,by have h1:=zHo.out.2.1;have h2:=zHo.out.2.2;omega,by rw[List.length_set];exact HB.out.2.2.2.2,?_,zC6.out.1,zC6.out.2.1,λy hy=> ?_,HR⟩
      ·have h:=zFd.out;rw[List.map_set];exact h
      ·rcases List.mem_or_eq_of_mem_set hy with hy|rfl
       ·exact HB.out.2.2.2.1 y hy
       ·exact hUI.out
     case measure=>
      have h1:=zHo.out.2.1;simpa[intOf]using h1
    ·(obtain rfl:q=0:=by omega);rw[if_neg (by omega)]at HR;have k3:=brd HW3.out.2.1 hkc hkb;rw[Nat.add_zero]at k3;have k3l:=lt_of_cell k3;clear hqp hkc;go_wp2;go_roundw;case rel=>exact⟨kx,c,m,rfl,zHo.out.1,by have h1:=zHo.out.2.1;have h2:=zHo.out.2.2;omega,HB.out.2.2.2.2,HW3.out.2.2.1,HW3.out.1,HW3.out.2.1,HB.out.2.2.2.1,HR⟩
     case measure=>
      have h1:=zHo.out.2.1;simpa[intOf]using h1
 ·have hv':zAB ds g=false:=by simpa using hv
  rw[hv']at HV;have HR:=hid (HU.out.trans (if_neg hv));clear hv hv' HU;go_wp2_with fail
  refine HV.out.mono ?_;rintro e w1 ⟨rfl,hb1⟩;have hbw:=zh.out.trans (hb1.mono zh.out.size);go_wp2;refine bodyPost_ret (v:= .tuple #[.slice none 0 0,.bool false]) (by simp[results,Tryz.results11,go_sem]) rfl ?_;rw[HR.out];exact⟨_,rfl,zL.nil _ _,hbw⟩
def NAt(Z:zD)(w:World)(xs:List Value)(i:Nat)(n:zB):Prop:=
 ∃vc vk,xs[i*4]? =some (.bool n.leaf)∧xs[i*4+1]? =some (.int .i64 n.fact)∧xs[i*4+2]? =some vc∧xs[i*4+3]? =some vk∧I64 n.fact∧zL Z w vc n.cuts∧zL Z w vk n.kids
theorem NAt.keep{Z:zD}{w w':World}{xs:List Value}{i:Nat}{n:zB}(h:NAt Z w xs i n)(hk:zA Z w w'):NAt Z w' xs i n:=by
 obtain⟨vc,vk,h0,h1,h2,h3,h4,h5,h6⟩:=h;exact⟨vc,vk,h0,h1,h2,h3,h4,h5.keep hk,h6.keep hk⟩
theorem NAt.mono{Z Z':zD}{w:World}{xs:List Value}{i:Nat}{n:zB}(hz:∀b,Z b->Z' b)(h:NAt Z w xs i n):NAt Z' w xs i n:=by
 obtain⟨vc,vk,h0,h1,h2,h3,h4,h5,h6⟩:=h;exact⟨vc,vk,h0,h1,h2,h3,h4,h5.mono hz,h6.mono hz⟩
theorem zMV{Z:zD}{w:World}{b:Nat}:∀{l:List zB}{off:Nat},zAT (zd Z w) 4 Z w l (some ⟨b,off,none⟩)->
  ∃xs:List Value,xs.length=l.length*4∧(∀u∈xs,u.oneCell'=true)∧(∀j u,xs[j]? =some u->w.cell? ⟨b,off+j,none⟩=some u)∧∀i(hi:i<l.length),NAt (λb=>Z b∧b<w.heap.size) w xs i l[i]
 |[],_,_=>⟨[],rfl,by simp,by simp,λi hi=>absurd hi (by simp)⟩
 |n::l,off,h=>by
  unfold zAT at h;obtain⟨b',off',cs,e,hz,hc,hn,hr⟩:=h;injection e with e;injection e with e1 e2;subst e1 e2;obtain⟨xs,x1,x2,x3,x4⟩:=zMV hr;obtain⟨vc,vk,rfl,hf,hcu,hki⟩:=hn;obtain⟨C,cc,hcv,-⟩:=hcu.is;obtain⟨K,kc,hkv,-⟩:=hki.is;refine⟨[.bool n.leaf,.int .i64 n.fact,vc,vk]++xs,by simp[x1];omega,λu hu=> ?_,λj u hu=> ?_,λi hi=> ?_⟩
  ·rcases List.mem_append.1 hu with hu|hu
   ·subst hcv hkv;simp only[List.mem_cons,List.not_mem_nil,or_false]at hu;rcases hu with rfl|rfl|rfl|rfl<;>rfl
   ·exact x2 u hu
  ·by_cases hj:j<4
   ·rw[List.getElem?_append_left (by simpa using hj)]at hu;exact hc j u hu
   ·rw[List.getElem?_append_right (by simp;omega)]at hu;have:=x3 _ u hu;simp only[List.length_cons,List.length_nil]at this;rwa[show off+4+(j-(0+1+1+1+1))=off+j by omega]at this
  ·cases i with
   |zero=>exact⟨vc,vk,rfl,rfl,rfl,rfl,hf,hcu.live,hki.live⟩
   |succ i=>
    obtain⟨vc',vk',h0,h1,h2,h3,h4⟩:=x4 i (by simpa using hi);refine⟨vc',vk',?_,?_,?_,?_,h4⟩;all_goals rw[List.getElem?_append_right (by simp;omega)]
    ·refine Eq.trans ?_ h0;congr 1;simp only[List.length_cons,List.length_nil];omega
    ·refine Eq.trans ?_ h1;congr 1;simp only[List.length_cons,List.length_nil];omega
    ·refine Eq.trans ?_ h2;congr 1;simp only[List.length_cons,List.length_nil];omega
    ·refine Eq.trans ?_ h3;congr 1;simp only[List.length_cons,List.length_nil];omega
theorem zRq{Z:zD}{w:World}{b:Nat}(hb:Z b){xs:List Value}(hx:∀j u,xs[j]? =some u->w.cell? ⟨b,j,none⟩=some u):∀(l:List zB)(k:Nat),(∀i(hi:i<l.length),NAt Z w xs (k+i) l[i])->
  zAT (zd Z w) 4 Z w l (some ⟨b,k*4,none⟩)
 |[],_,_=>by unfold zAT;trivial
 |n::l,k,h=>by
  unfold zAT;obtain⟨vc,vk,h0,h1,h2,h3,h4,h5,h6⟩:=h 0 (by simp);refine⟨b,k*4,[.bool n.leaf,.int .i64 n.fact,vc,vk],rfl,hb,λj u hu=> ?_,⟨vc,vk,rfl,h4,h5,h6⟩,?_⟩
  ·match j,hu with
   |0,hu=>simp at hu;subst hu;exact hx _ _ h0
   |1,hu=>simp at hu;subst hu;exact hx _ _ h1
   |2,hu=>simp at hu;subst hu;exact hx _ _ h2
   |3,hu=>simp at hu;subst hu;exact hx _ _ h3
   |j+4,hu=>simp at hu
  ·rw[show k*4+4=(k+1)*4 by omega]
   exact zRq hb hx l (k+1) λi hi=>by
    have:=h (i+1) (by simpa using hi);rwa[show k+(i+1)=k+1+i by omega]at this
theorem Tryz.nilN(w:World)(a:Option Addr)(n c n' c':Nat):(binOp .eql 28 (.slice a n c) (.slice none n' c')).run Tryz.prog w= .ok (.bool a.isNone) w:=Lib.run_eql_slice_nil w _ _ a n c n' c' Tryz.underlying28
theorem zQi(Z:zD)(v:Value)(g:List zB)(w:World)(h:zO Z w v g):
  Calls Tryz.prog 64 #[v] w λe w'=>∃v' xs,e= .returned v'∧w'.ownsRow w.heap.size 51 4 v' g.length xs∧Below w.heap.size w w'∧∀i(hi:i<g.length),NAt (λb=>Z b∧b<w.heap.size) w xs i g[i]:=by
 obtain⟨A,cap,rfl,h1,h2,h3,hseq⟩:=h;have q:=Tryz.nilN
 cases A with
 |none=>
  have hg:g=[]:=by
   cases g with
   |nil=>rfl
   |cons n r=>unfold zAT at hseq;obtain⟨_,_,_,e,_⟩:=hseq;cases e
  subst hg;clear hseq;go_enter Tryz.func64,Tryz.ntmps64
  go_wp2;go_ret;exact⟨_,[],rfl,World.ownsRow_nil _ _ _ _,Below.refl _ _,λi hi=>absurd hi (by simp)⟩
 |some p=>
  have HX:∃xs:List Value,xs.length=g.length*4∧(∀u∈xs,u.oneCell'=true)∧(∀j u,xs[j]? =some u->w.cell? (p.add j)=some u)∧∀i(hi:i<g.length),NAt (λb=>Z b∧b<w.heap.size) w xs i g[i]:=by
   cases g with
   |nil=>exact⟨[],rfl,by simp,by simp,λi hi=>absurd hi (by simp)⟩
   |cons n r=>
    have hs:=hseq;unfold zAT at hs;obtain⟨b,off,_,e,_⟩:=hs;injection e with e;subst e;obtain⟨xs,x1,x2,x3,x4⟩:=zMV hseq;refine⟨xs,x1,x2,λj u hu=> ?_,x4⟩;rw[show(⟨b,off,none⟩:Addr).add j=⟨b,off+j,none⟩ from by unfold Addr.add;split<;>simp_all];exact x3 j u hu
  obtain⟨xs,x1,x2,x3,x4⟩:=HX;have HX3:=hid x3;have HX4:=hid x4;obtain⟨_,i0,z0,hi0,hz0,hsz0,hby0,hzs0⟩:=Tryz.eNode;have HB:=hid h3;clear hseq x3 x4;go_enter Tryz.func64,Tryz.ntmps64
  go_wp2_with(at_builtin;refine wpList_append_own _ rfl _ _ 28 rfl w.heap.size 51 i0 z0 4 64 Tryz.underlying28 hi0 hz0 hsz0 hby0 hzs0 (by decide) _ _ _ rfl (World.ownsRow_made w #[] 0 (Nat.le_refl _) (Nat.zero_le _) rfl) p g.length cap xs rfl x1 (λj u hu=>zCa (HX3.out j u hu) _) x2 (by have:=HB.out;unfold maxLen;omega) (by have:=HB.out;omega) (by simp) ?_);intro v' w1 hown hgrow hnil;go_wp2;go_ret;refine⟨v',xs,rfl,by simpa using hown,?_,HX4.out⟩;exact((Below.refl _ w).alloc (Nat.le_refl _) _).grown hgrow (by simp) (by intro k hk;simp[Value.ownBlock]at hk;omega)
theorem zNo{Z:zD}{w:World}:∀{l:List zB}{A:Option Addr},zAT (zd Z w) 4 Z w l A->zAT (zd (λb=>Z b∧b<w.heap.size) w) 4 (λb=>Z b∧b<w.heap.size) w l A
 |[],_,_=>by unfold zAT;trivial
 |n::l,A,h=>by
  unfold zAT at h⊢;obtain⟨b,off,cs,e,hz,hc,⟨vc,vk,rfl,hf,hcu,hki⟩,hr⟩:=h;exact⟨b,off,_,e,⟨hz,lt_of_cell (hc 0 _ rfl)⟩,hc,⟨vc,vk,rfl,hf,hcu.live,hki.live⟩,zNo hr⟩
theorem zO.live{Z:zD}{w:World}{v:Value}{g:List zB}(h:zO Z w v g):zO (λb=>Z b∧b<w.heap.size) w v g:=by
 obtain⟨A,cap,rfl,h1,h2,h3,h4⟩:=h;exact⟨A,cap,rfl,h1,h2,h3,zNo h4⟩
theorem zUO{w:World}{base:Nat}{e:TypeId}{size g n cap:Nat}{xs:List Value}(h:w.ownsRow base e size (.slice (some ⟨g,0,none⟩) n cap) n xs)(j:Nat)(u:Value):
  (w.setCell ⟨g,j,none⟩ u).ownsRow base e size (.slice (some ⟨g,0,none⟩) n cap) n (xs.set j u):=by
 refine⟨by simpa using h.1,?_⟩;rcases h.2 with⟨h,_⟩|⟨g',cap',cur,e',hb,hg,h1,h2,h3,h4⟩
 ·cases h
 ·injection e' with e1 e2 e3;injection e1 with e1;injection e1 with e1;subst e1 e3;refine Or.inr ⟨g,cap,cur.setIfInBounds j u,rfl,hb,?_,h1,h2,by simpa using h3,?_⟩
  ·have:Blk w g e cur:=hg;exact this.set_ j u
  ·rw[<-h4];simp only[Array.toList_setIfInBounds,List.take_set]
theorem zTB{w:World}{base:Nat}{e:TypeId}{size g n cap:Nat}{xs:List Value}(h:w.ownsRow base e size (.slice (some ⟨g,0,none⟩) n cap) n xs)(j:Nat):w.frozen? ⟨g,j,none⟩=false:=by
 rcases h.2 with⟨h,_⟩|⟨g',cap',cur,e',hb,hg,_⟩
 ·cases h
 ·injection e' with e1;injection e1 with e1;injection e1 with e1;subst e1;exact(show Blk w g e cur from hg).frozen j
theorem zI5{w:World}{base:Nat}{e:TypeId}{size g n cap:Nat}{xs:List Value}(h:w.ownsRow base e size (.slice (some ⟨g,0,none⟩) n cap) n xs){j:Nat}{u:Value}(hu:xs[j]? =some u):w.cell? ⟨g,j,none⟩=some u:=by
 have:=h.cells (g:=g) rfl j u hu;rwa[show(⟨g,0,none⟩:Addr).add j=⟨g,j,none⟩ from by unfold Addr.add;split<;>simp_all]at this
theorem NAt.leaf{Z:zD}{w:World}{xs:List Value}{k:Nat}{n:zB}(h:NAt Z w xs k n)(hk:n.kids=[]):NAt Z w (xs.set (k*4) (.bool !n.leaf)) k (zDI n):=by
 obtain⟨vc,vk,h0,h1,h2,h3,h4⟩:=h;have hl:k*4<xs.length:=(List.getElem?_eq_some_iff.1 h0).1;unfold zDI;rw[if_pos hk];refine⟨vc,vk,?_,?_,?_,?_,h4⟩
 ·rw[List.getElem?_set_self hl]
 ·rw[List.getElem?_set_ne (by omega)];exact h1
 ·rw[List.getElem?_set_ne (by omega)];exact h2
 ·rw[List.getElem?_set_ne (by omega)];exact h3
theorem NAt.far{Z:zD}{w:World}{xs:List Value}{k i:Nat}{n:zB}{u:Value}(h:NAt Z w xs i n)(hk:k≠i):NAt Z w (xs.set (k*4) u) i n:=by
 obtain⟨vc,vk,h0,h1,h2,h3,h4⟩:=h;refine⟨vc,vk,?_,?_,?_,?_,h4⟩
 ·rw[List.getElem?_set_ne (by omega)];exact h0
 ·rw[List.getElem?_set_ne (by omega)];exact h1
 ·rw[List.getElem?_set_ne (by omega)];exact h2
 ·rw[List.getElem?_set_ne (by omega)];exact h3
def zLf(g:List zB)(k i:Nat):zB:=if i<k then zDI (g.getD i zBO)else g.getD i zBO
structure zFE (Z:zD) (w u wr:World) (g:List zB) (v1:Value) (G k:Nat):Prop where
 row:∃ys,wr.ownsRow (w.heap.size+1+1) 51 4 v1 g.length ys∧∀i,i<g.length->NAt Z u ys i (zLf g k i)
 box:Blk wr G 30 #[v1]
 far:v1.ownBlock≠some G
 lim:w.heap.size+1+1≤G
 out:Blk wr (w.heap.size+1) 30 #[.slice none 0 0]
 bel:Below w.heap.size w wr
 bu:Below w.heap.size u wr
theorem zFE.alloc{Z:zD}{w u wr:World}{g:List zB}{v1:Value}{G k:Nat}(h:zFE Z w u wr g v1 G k)(o:Obj):zFE Z w u (wr.alloc o) g v1 G k:=by
 obtain⟨ys,h1,h2⟩:=h.row;exact⟨⟨ys,h1.alloc o,h2⟩,h.box.alloc o,h.far,h.lim,h.out.alloc o,h.bel.trans ((zE wr o).mono h.bel.size),h.bu.alloc h.bel.size o⟩
theorem zFE.stay{Z:zD}{w u wr:World}{g:List zB}{v1:Value}{G k:Nat}(h:zFE Z w u wr g v1 G k)(hk:(g.getD k zBO).kids ≠[]):zFE Z w u wr g v1 G (k+1):=by
 obtain⟨ys,h1,h2⟩:=h.row;refine⟨⟨ys,h1,λi hi=> ?_⟩,h.box,h.far,h.lim,h.out,h.bel,h.bu⟩;have:=h2 i hi;unfold zLf at this⊢;by_cases e:i=k
 ·subst e;rw[if_neg (by omega)]at this;rw[if_pos (by omega)];unfold zDI;rwa[if_neg hk]
 ·by_cases hik:i<k
  ·rw[if_pos hik]at this;rwa[if_pos (by omega)]
  ·rw[if_neg hik]at this;rwa[if_neg (by omega)]
theorem zFE.turn{Z:zD}{w u wr:World}{g:List zB}{gb cap G k:Nat}(h:zFE Z w u wr g (.slice (some ⟨gb,0,none⟩) g.length cap) G k)(hkl:k<g.length)(hk:(g.getD k zBO).kids =[]):
  zFE Z w u (wr.setCell ⟨gb,k*4,none⟩ (.bool !(g.getD k zBO).leaf)) g (.slice (some ⟨gb,0,none⟩) g.length cap) G (k+1):=by
 obtain⟨ys,h1,h2⟩:=h.row;have hgb:=(h1.lt gb rfl).1;have hne:gb≠G:=λe=>h.far (by rw[e];rfl)
 refine⟨⟨_,zUO h1 _ _,λi hi=> ?_⟩,h.box.far (Ne.symm hne) _,h.far,h.lim,h.out.far (by show w.heap.size+1≠gb;omega) _,h.bel.setCell (by show w.heap.size≤gb;omega) _,h.bu.setCell (by show w.heap.size≤gb;omega) _⟩;have:=h2 i hi;unfold zLf at this⊢;by_cases e:i=k
 ·subst e;rw[if_neg (by omega)]at this;rw[if_pos (by omega)];exact this.leaf hk
 ·by_cases hik:i<k
  ·rw[if_pos hik]at this;rw[if_pos (by omega)];exact this.far (Ne.symm e)
  ·rw[if_neg hik]at this;rw[if_neg (by omega)];exact this.far (Ne.symm e)
theorem zFE.nodes{Z:zD}{w u wr:World}{g:List zB}{v1:Value}{G:Nat}(h:zFE (λb=>Z b∧b<w.heap.size) w u wr g v1 G g.length)(hl:g.length*64≤140737488355328):zO (λb=>(Z b∧b<w.heap.size)∨w.heap.size+1+1≤b) wr v1 (zF4 g):=by
 obtain⟨ys,h1,h2⟩:=h.row;obtain⟨A,cap,rfl,c1,c2,-⟩:=Row.of_own h1 (by decide);have hlen:(zF4 g).length =g.length:=List.length_map _;refine⟨A,cap,by rw[hlen],by rw[hlen];exact c1,by simpa[maxLen]using c2,by rw[hlen];exact hl,?_⟩
 cases g with
 |nil=>unfold zF4;simp only[List.map_nil];unfold zAT;trivial
 |cons n r=>
  obtain⟨gb,c',e⟩:=zAZ h1;injection e with e;subst e;have hgb:=(h1.lt gb rfl).1
  have:=zRq (Z:=λb=>(Z b∧b<w.heap.size)∨w.heap.size+1+1≤b) (w:=wr) (b:=gb) (Or.inr (by omega)) (xs:=ys) (λj u hu=>zI5 h1 hu) (zF4 (n::r)) 0 (λi hi=>by
   (have hi':i<(n::r).length :=by rwa[hlen]at hi);have h3:=h2 i hi';unfold zLf at h3;rw[if_pos hi']at h3;rw[Nat.zero_add]
   have e:(zF4 (n::r))[i]=zDI ((n::r).getD i zBO):=by
    have e1:(zF4 (n::r))[i]=zDI (n::r)[i]:=List.getElem_map _;rw[e1,List.getD_eq_getElem?_getD,List.getElem?_eq_getElem hi'];rfl
   rw[e]
   exact(h3.keep (.of_below_lt h.bu (λb _ hb=>hb.2))).mono λb hb=>Or.inl hb)
  simpa using this
theorem zUP(Z:zD)(v:Value)(g:List zB)(w:World)(h:zO Z w v g):
  Calls Tryz.prog 20 #[.agg #[v]] w λe w'=>∃v',e= .returned (.agg #[v'])∧zO (λb=>(Z b∧b<w.heap.size)∨w.heap.size≤b) w' v' (zF4 g)∧Below w.heap.size w w':=by
 have HC:=hid (λW(hb:Below w.heap.size w W)=>zQi _ v g W (h.live.keep (.of_below hb)));obtain⟨A,cap,rfl,-,-,h3,-⟩:=h;have H64:=hid h3;have hb2:=zAy w (.cells #[.slice A g.length cap] 30) (.cells #[.slice none 0 0] 30);have hbx:=(Blk.new' (w.alloc (.cells #[.slice A g.length cap] 30)) 30 #[.slice none 0 0] (n:=w.heap.size+1) (by simp));have HB:=hid (And.intro hb2 hbx);clear hb2 hbx h3;go_enter Tryz.func20,Tryz.ntmps20
 go_wp2_with fail
 refine(HC.out _ HB.out.1).mono ?_;rintro e w1 ⟨v1,xs,rfl,hown,hb1,hat⟩
 have HL:=hid (show zFE (λb=>Z b∧b<w.heap.size) w ((w.alloc (.cells #[.slice A g.length cap] 30)).alloc (.cells #[.slice none 0 0] 30)) (w1.alloc (.cells #[v1] 30)) g v1 w1.heap.size 0 from
  ⟨⟨xs,(zH5 hown (by simp)).alloc _,λi hi=>by
   have:=hat i hi;unfold zLf;rw[if_neg (by omega),List.getD_eq_getElem?_getD,List.getElem?_eq_getElem hi]
   exact this.mono λb hb=>hb.1⟩,Blk.new _ _ _,λe=>by have:=(hown.lt _ e).2;omega,by have:=hb1.size;simpa using this,(HB.out.2.below hb1 (by simp)).alloc _,(HB.out.1.trans (hb1.mono HB.out.1.size)).alloc (by have:=hb1.size;simp at this;omega) _,(hb1.mono HB.out.1.size).alloc (by have:=hb1.size;simp at this;omega) _⟩)
 obtain⟨A1,cap1,rfl,-,-,-⟩:=Row.of_own hown (by decide);clear hown hat hb1 HC HB;generalize (w.alloc (.cells #[.slice A g.length cap] 30)).alloc (.cells #[.slice none 0 0] 30)=u at*;have HG:=hid (show w1.heap.size=w1.heap.size from rfl);go_upto_region 2 with fail
 generalize (w1.alloc (.cells #[.slice A1 g.length cap1] 30))=w2 at*;generalize w1.heap.size=G at*;have b0:=HL.out.box.at0;have b0l:=HL.out.box.lt;have hgl:g.length≤2199023255552:=by have:=H64.out;omega
 go_wp2;clear b0 b0l;go_loopw[13] (λix wr=>∃k:Nat,k≤g.length∧ix= .int .i64 k∧zFE (λb=>Z b∧b<w.heap.size) w u wr g (.slice A1 g.length cap1) G k) (λix _=>g.length-(intOf ix).toNat);case atStart=>exact⟨0,Nat.zero_le _,rfl,HL.out⟩
 case round=>
  obtain⟨k,hk,rfl,hL⟩:=hrel;by_cases hkl:k<g.length
  ·obtain⟨ys,hown,hat⟩:=hL.row
   have hA:∃gb,A1=some ⟨gb,0,none⟩:=by
    rcases hown.2 with⟨_,h0⟩|⟨gc,c',cur',hv,_⟩
    ·omega
    ·injection hv with hv;exact⟨gc,hv⟩
   obtain⟨gb,rfl⟩:=hA;obtain⟨vc,vk,x0,x1,x2,x3,hf,hcu,hki⟩:=hat k hkl;unfold zLf at x0 x1 hf hcu hki;rw[if_neg (Nat.lt_irrefl k)]at x0 x1 hf hcu hki;have c0:=zI5 hown x0;have c1:=zI5 hown x1;have c2:=zI5 hown x2;have c3:=zI5 hown x3;have cf:=zTB hown (k*4);have cl:gb<wr.heap.size:=(hown.lt gb rfl).2;have b0:=hL.box.at0;have b0l:=hL.box.lt;obtain⟨AC,cc,rfl,-⟩:=hcu.is;obtain⟨AK,kc,rfl,-,-,hk8,-⟩:=hki.is;have HLK:=hid hL;have HKL:=hid hkl;(have hi1:(k:Int)<(g.length:Int):=by omega);obtain⟨n,hn⟩:∃n,n=g.getD k zBO:=⟨_,rfl⟩;have HN:=hid hn;(have hkk:n.kids.length≤17592186044416:=by rw[hn];omega);rw[<-hn]at c0 c1 c2 c3;clear x0 x1 x2 x3 hat hown hf hcu hki hL hn hk8 hkl;by_cases hke:n.kids=[]
   ·(have e3:((n.kids.length:Int)==0)=true:=by simp[hke]);have HS:=hid (HLK.out.turn HKL.out (by rw[<-HN.out];exact hke));rw[<-HN.out]at HS;replace HS:=hid (HS.out.alloc (.cells #[.bool n.leaf,.int .i64 n.fact,.slice AC n.cuts.length cc,.slice AK n.kids.length kc] 51));clear hke;go_wp2;go_roundw;(case rel=>exact⟨k+1,by omega,by go_num,HS.out⟩);case measure=>simp[intOf];omega
   ·(have e3:((n.kids.length:Int)==0)=false:=by simp[hke]);have HS:=hid ((HLK.out.alloc (.cells #[.bool n.leaf,.int .i64 n.fact,.slice AC n.cuts.length cc,.slice AK n.kids.length kc] 51)).stay (by rw[<-HN.out];exact hke));clear hke;go_wp2;go_roundw;(case rel=>exact⟨k+1,by omega,by go_num,HS.out⟩);case measure=>simp[intOf];omega
  ·(obtain rfl:k=g.length:=by omega);have b0:=hL.box.at0;have b0l:=hL.box.lt;have r0:=hL.out.at0;have rf:=hL.out.frozen 0;have rl:=hL.out.lt
   have HP:=hid (show zO (λb=>(Z b∧b<w.heap.size)∨w.heap.size≤b) (wr.setCell ⟨w.heap.size+1,0,none⟩ (.slice A1 g.length cap1)) (.slice A1 g.length cap1) (zF4 g)∧Below w.heap.size w (wr.setCell ⟨w.heap.size+1,0,none⟩ (.slice A1 g.length cap1)) from
    ⟨((hL.nodes H64.out).keep ((zA.refl _ _).setCell (λ_ h=>by rcases h with h|h<;>(simp at h;omega)) _)).mono λb hb=>hb.imp_right λh=>by omega,hL.bel.setCell (by show w.heap.size≤w.heap.size+1;omega) _⟩)
   have HR0:=hid ((hL.out.set_ 0 (.slice A1 g.length cap1)).cell 0);clear hL;go_wp2;have r1:(wr.setCell ⟨w.heap.size+1,0,none⟩ (.slice A1 g.length cap1)).cell? ⟨w.heap.size+1,0,none⟩=some (.slice A1 g.length cap1):=HR0.out;exact bodyPost_ret (v:= .agg #[.slice A1 g.length cap1]) (by simp[results,Tryz.results20,go_sem,r1]) rfl ⟨_,rfl,HP.out.1,HP.out.2⟩
end Go.Proofs.YtonmdbdopchkaaaGreatDoor
