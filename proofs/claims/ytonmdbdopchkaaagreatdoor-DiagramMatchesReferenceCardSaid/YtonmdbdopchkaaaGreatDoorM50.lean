/- Texts V26. -/
import Derived.Test.YtonmdbdopchkaaaGreatDoorM49
import Derived.Test.YtonmdbdopchkaaaGreatDoorM43
set_option linter.all false
namespace Go.Proofs.YtonmdbdopchkaaaGreatDoor
open Go.RowKit
set_option maxHeartbeats 8000000
set_option maxRecDepth 100000
structure RA (w W:World) (A B D r:Value):Prop where
 a:Blk W w.heap.size 30 #[A]
 b:Blk W (w.heap.size+1) 30 #[B]
 d:Blk W (w.heap.size+1+1) 27 #[D]
 r:Blk W (w.heap.size+1+1+1) 30 #[r]
 w:Below w.heap.size w W
theorem RA.new(w:World)(A B D:Value):RA w ((((w.alloc (.cells #[A] 30)).alloc (.cells #[B] 30)).alloc (.cells #[D] 27)).alloc (.cells #[.slice none 0 0] 30)) A B D (.slice none 0 0):=
 ⟨(((Blk.new w _ #[A]).alloc _).alloc _).alloc _,((Blk.new' (w.alloc (.cells #[A] 30)) _ #[B] (by simp)).alloc _).alloc _,(Blk.new' ((w.alloc (.cells #[A] 30)).alloc (.cells #[B] 30)) _ #[D] (by simp)).alloc _,Blk.new' (((w.alloc (.cells #[A] 30)).alloc (.cells #[B] 30)).alloc (.cells #[D] 27)) _ _ (by simp),(zJP w _ _ _).alloc (by simp;omega) _⟩
theorem RA.onB{w W W':World}{A B D r:Value}{n:Nat}(h:RA w W A B D r)(hn:w.heap.size+1+1+1<n)(hW:n≤W.heap.size)(hb:Below n W W'):RA w W' A B D r:=
 ⟨h.a.below hb (by omega),h.b.below hb (by omega),h.d.below hb (by omega),h.r.below hb hn,h.w.trans (hb.mono (by omega))⟩
theorem RA.on{w W W':World}{A B D r:Value}(h:RA w W A B D r)(hb:Below W.heap.size W W'):RA w W' A B D r:=h.onB h.r.lt (Nat.le_refl _) hb
theorem RA.keep{w W W':World}{A B D r:Value}{Z:zD}(h:RA w W A B D r)(hk:zA Z W W')(hz:∀c,c≤w.heap.size+3->Z c):RA w W' A B D r:=
 ⟨h.a.keep hk (hz _ (by omega)),h.b.keep hk (hz _ (by omega)),h.d.keep hk (hz _ (by omega)),h.r.keep hk (hz _ (by omega)),h.w.trans ⟨hk.os,hk.tape,hk.output,hk.size,λc hc=>hk.block c (by have:=h.w.size;omega) (hz c (by omega))⟩⟩
theorem zUn{w W:World}{DB n m:Nat}{cur cz:Array Value}(h0:Blk W DB 31 cur)(h1:∀j,j<n->cur[j]? =some (.slice (some ⟨DB+1+j,0,none⟩) m m))(h2:∀j,j<n->Blk W (DB+1+j) 3 cz)(h3:cz=((List.replicate m (0:Int)).map (Value.int .i64)).toArray):
  DnM W DB (λj=>DB+1+j) n m (zeros n m):=by
 have hg:∀i,i<n->(zeros n m).getD i []=List.replicate m 0:=λi hi=>by
  unfold zeros;rw[List.getD_eq_getElem?_getD,List.getElem?_replicate,if_pos hi];rfl
 refine⟨by unfold zeros;simp,λi hi=>by rw[hg i hi];simp,λi j=> ?_,λi hi=>(h0.cell i).trans (h1 i hi),λi hi=> ?_,λi j _ _ e=>by omega,λi _=>by omega⟩
 ·have:=zOM n m (i:Int) (j:Int);unfold dn at this;rw[Int.toNat_natCast,Int.toNat_natCast]at this;rw[this];exact⟨by decide,by decide⟩
 ·rw[hg i hi,<-h3];exact h2 i hi
theorem zP2(Z:zD)(va vb vd:Value)(a b:List zB)(ds:List zC)(w:World)(ha:zO Z w va a)(hb:zO Z w vb b)(hd:Facts Z w vd ds)(hz:∀c,Z c->c<w.heap.size)(hlen:a.length*b.length≤900000)(hla:a.length≤4000)(hlb:b.length≤4000)(hca:∀q∈a,q.cuts.length≤1000)(hcb:∀q∈b,q.cuts.length≤1000):
  Calls Tryz.prog 10 #[.agg #[va],.agg #[vb],.agg #[vd]] w (zEz (λ_=>False) (zIo ds a b) w):=by
 have HVA:=hid (λW(hW:Below w.heap.size w W)=>zDh Z va vd a ds W (ha.keep (.of_below hW)) (hd.keep (.of_below hW)) (λc hc=>Nat.lt_of_lt_of_le (hz c hc) hW.size));have HVB:=hid (λW(hW:Below w.heap.size w W)=>zDh Z vb vd b ds W (hb.keep (.of_below hW)) (hd.keep (.of_below hW)) (λc hc=>Nat.lt_of_lt_of_le (hz c hc) hW.size));have HU:=hid (show zIo ds a b=if zAB ds a=true∧zAB ds b=true then zAg ds (zAH ds a b (ds.length+1) 0 0 ⟨[],zeros a.length b.length⟩).2.all (zAH ds a b (ds.length+1) 0 0 ⟨[],zeros a.length b.length⟩).1 else([],1) from rfl);have HIN:=hid (And.intro ha (And.intro hb (And.intro hd hz)));have HSZ:=hid (And.intro hlen (And.intro hla hlb));have HCC:=hid (And.intro hca hcb);obtain⟨AA,acap,rfl,-,-,-⟩:=ha.open_;obtain⟨AB,bcap,rfl,-,-,-⟩:=hb.open_;obtain⟨D,dcap,rfl,-,-,-⟩:=hd.open_;have HB0:=hid (RA.new w (.slice AA a.length acap) (.slice AB b.length bcap) (.slice D ds.length dcap));clear ha hb hd hz hlen hla hlb hca hcb;go_enter Tryz.func10,Tryz.ntmps10
 go_upto_region 1 with fail
 generalize (((w.alloc (.cells #[.slice AA a.length acap] 30)).alloc (.cells #[.slice AB b.length bcap] 30)).alloc (.cells #[.slice D ds.length dcap] 27)).alloc (.cells #[.slice none 0 0] 30)=w0 at*;have a0:=HB0.out.a.at0;have al:=HB0.out.a.lt;have d0:=HB0.out.d.at0;have dl:=HB0.out.d.lt;go_wp2_with fail
 refine(HVA.out _ HB0.out.w).mono ?_;rintro e w1 ⟨rfl,hb1⟩;have HB1:=hid (HB0.out.on hb1);clear HB0 hb1 HVA a0 al d0 dl;cases hva:zAB ds a
 ·have HQ:=hid (HU.out.trans (if_neg (λh=>by rw[hva]at h;exact absurd h.1 (by decide))));clear hva;have r0:=HB1.out.r.at0;have rf:w1.frozen? ⟨w.heap.size+1+1+1,0,none⟩=false:=HB1.out.r.frozen 0;have rl:=HB1.out.r.lt;go_wp2;have r1:=(HB1.out.r.set_ 0 (.slice none 0 0)).cell 0;refine bodyPost_ret (v:= .tuple #[.agg #[.slice none 0 0],.int .i64 1]) (by simp[results,Tryz.results10,go_sem,r1]) rfl ?_;rw[HQ.out];exact⟨_,rfl,zBp _ _,HB1.out.w.setCell (p:=⟨w.heap.size+1+1+1,0,none⟩) (by show w.heap.size≤w.heap.size+1+1+1;omega) _⟩
 have b0:=HB1.out.b.at0;have bl:=HB1.out.b.lt;have d0:=HB1.out.d.at0;have dl:=HB1.out.d.lt;go_wp2_with fail
 refine(HVB.out _ HB1.out.w).mono ?_;rintro e w2 ⟨rfl,hb2⟩;have zh:=hid (HB1.out.on hb2);clear HB1 hb2 HVB b0 bl d0 dl;cases hvb:zAB ds b
 ·have HQ:=hid (HU.out.trans (if_neg (λh=>by rw[hvb]at h;exact absurd h.2 (by decide))));clear hva hvb;have r0:=zh.out.r.at0;have rf:w2.frozen? ⟨w.heap.size+1+1+1,0,none⟩=false:=zh.out.r.frozen 0;have rl:=zh.out.r.lt;go_wp2;have r1:=(zh.out.r.set_ 0 (.slice none 0 0)).cell 0;refine bodyPost_ret (v:= .tuple #[.agg #[.slice none 0 0],.int .i64 1]) (by simp[results,Tryz.results10,go_sem,r1]) rfl ?_;rw[HQ.out];exact⟨_,rfl,zBp _ _,zh.out.w.setCell (p:=⟨w.heap.size+1+1+1,0,none⟩) (by show w.heap.size≤w.heap.size+1+1+1;omega) _⟩
 have HQ:=hid (HU.out.trans (if_pos ⟨hva,hvb⟩));have HIA:=hid (zAk.1 hva);have HIB:=hid (zAk.1 hvb);clear hva hvb HU;obtain⟨i0,hi0,e0⟩:=Option.map_eq_some_iff.1 (show(Tryz.prog.info? 3).map (λi=>(i.zero,i.size,i.bytes))=some (some (.int .i64 0),1,8) from by kernel_rfl);simp only[Prod.mk.injEq]at e0;obtain⟨hz0,hsz0,hby0⟩:=e0;obtain⟨i1,hi1,e1⟩:=Option.map_eq_some_iff.1 (show(Tryz.prog.info? 31).map (λi=>(i.zero,i.size,i.bytes))=some (some (.slice none 0 0),1,24) from by kernel_rfl);simp only[Prod.mk.injEq]at e1;obtain⟨hz1,hsz1,hby1⟩:=e1;have hla:=HSZ.out.2.1;have hlb:=HSZ.out.2.2;have hms:=λW=>run_makeSlice (w:=W) 31 3 i0 (.int .i64 0) Tryz.underlying31 hi0 hz0 .i64 .i64 (b.length:Int) (b.length:Int) (by omega) (Int.le_refl _) (by rw[hsz0,Int.toNat_natCast];omega) (by rw[hby0];omega) (by omega)
 have hmo:=λW=>run_makeSlice (w:=W) 94 31 i1 (.slice none 0 0) Tryz.underlying94 hi1 hz1 .i64 .i64 (a.length:Int) (a.length:Int) (by omega) (Int.le_refl _) (by rw[hsz1,Int.toNat_natCast];omega) (by rw[hby1];omega) (by omega)
 simp only[Int.toNat_natCast,hsz0,Nat.mul_one]at hms;simp only[Int.toNat_natCast,hsz1,Nat.mul_one]at hmo;rw[show(Value.int .i64 0).cells =#[.int .i64 0] from rfl]at hms;rw[show(Value.slice none 0 0).cells =#[.slice none 0 0] from rfl]at hmo
 have HCZ:=hid (show madeCells #[Value.int .i64 0] b.length=((List.replicate b.length (0:Int)).map (Value.int .i64)).toArray from by
  rw[<-Array.toList_inj,toList_madeCells_one,List.map_replicate])
 have HCO:=hid (size_madeCells #[Value.slice none 0 0] a.length)
 have HCE:=hid (show ∀j,j<a.length->(madeCells #[Value.slice none 0 0] a.length)[j]? =some (.slice none 0 0) from λj hj=>by
  rw[<-Array.getElem?_toList,toList_madeCells_one,List.getElem?_replicate,if_pos hj])
 generalize madeCells #[Value.int .i64 0] b.length=cz at*;generalize madeCells #[Value.slice none 0 0] a.length=co at*;clear hi0 hz0 hsz0 hby0 hi1 hz1 hsz1 hby1;have a0:=zh.out.a.at0;have al:=zh.out.a.lt;go_wp2;have HDO:=hid (Blk.new w2 31 co);have HDW:=hid (zE w2 (.cells co 31));have HS2:=hid zh.out.r.lt;clear hmo a0 al;go_loopw[9] (λix wr=>∃(i:Nat)(cur:Array Value),i≤a.length∧ix= .int .i64 i∧Hid (Blk wr w2.heap.size 31 cur∧cur.size=a.length∧(∀j,j<i->cur[j]? =some (.slice (some ⟨w2.heap.size+1+j,0,none⟩) b.length b.length))∧(∀j,i≤j->j<a.length->cur[j]? =some (.slice none 0 0))∧(∀j,j<i->Blk wr (w2.heap.size+1+j) 3 cz)∧wr.heap.size=w2.heap.size+1+i∧Below w2.heap.size w2 wr)) (λix _=>a.length-(intOf ix).toNat);case atStart=>exact⟨0,co,Nat.zero_le _,rfl,hid ⟨HDO.out,HCO.out,λj h=>absurd h (Nat.not_lt_zero _),λj _ h=>HCE.out j h,λj h=>absurd h (Nat.not_lt_zero _),by simp,HDW.out⟩⟩
 case round=>
  obtain⟨i,cur,hi,rfl,hq⟩:=hrel;have HRA:=hid (zh.out.onB HS2.out (Nat.le_refl _) hq.out.2.2.2.2.2.2);by_cases hlt:i<a.length
  ·have hcell:wr.cell? ⟨w2.heap.size,i,none⟩=some (.slice none 0 0):=(hq.out.1.cell i).trans (hq.out.2.2.2.1 i (Nat.le_refl _) hlt);have hfr:=hq.out.1.frozen i;have hlv:=hq.out.1.lt;(have hlv1:w2.heap.size<wr.heap.size+1:=by omega);have b0:=HRA.out.b.at0;have bl:=HRA.out.b.lt;(have hi1:((i:Nat):Int)<(a.length:Int):=by omega);have hi0:(0:Int)≤((i:Nat):Int):=by omega
   have HN:=hid (show Blk ((wr.setCell ⟨w2.heap.size,i,none⟩ (.slice (some ⟨wr.heap.size,0,none⟩) b.length b.length)).alloc (.cells cz 3)) w2.heap.size 31 (cur.setIfInBounds i (.slice (some ⟨wr.heap.size,0,none⟩) b.length b.length))∧(cur.setIfInBounds i (.slice (some ⟨wr.heap.size,0,none⟩) b.length b.length)).size =a.length∧(∀j,j<i+1->(cur.setIfInBounds i (.slice (some ⟨wr.heap.size,0,none⟩) b.length b.length))[j]? =some (.slice (some ⟨w2.heap.size+1+j,0,none⟩) b.length b.length))∧(∀j,i+1≤j->j<a.length->(cur.setIfInBounds i (.slice (some ⟨wr.heap.size,0,none⟩) b.length b.length))[j]? =some (.slice none 0 0))∧(∀j,j<i+1->Blk ((wr.setCell ⟨w2.heap.size,i,none⟩ (.slice (some ⟨wr.heap.size,0,none⟩) b.length b.length)).alloc (.cells cz 3)) (w2.heap.size+1+j) 3 cz)∧((wr.setCell ⟨w2.heap.size,i,none⟩ (.slice (some ⟨wr.heap.size,0,none⟩) b.length b.length)).alloc (.cells cz 3)).heap.size =w2.heap.size+1+(i+1)∧Below w2.heap.size w2 ((wr.setCell ⟨w2.heap.size,i,none⟩ (.slice (some ⟨wr.heap.size,0,none⟩) b.length b.length)).alloc (.cells cz 3)) from by
    obtain⟨h1,h2,h3,h4,h5,h6,h7⟩:=hq.out;refine⟨(h1.set_ i _).alloc _,by rw[Array.size_setIfInBounds];exact h2,λj hj=> ?_,λj hj hja=> ?_,λj hj=> ?_,by simp;omega,(h7.setCell (Nat.le_refl _) _).alloc (by simp;omega) _⟩
    ·by_cases e:j=i
     ·subst e;rw[Array.getElem?_setIfInBounds_self_of_lt (by omega),h6]
     ·rw[Array.getElem?_setIfInBounds_ne (by omega)];exact h3 j (by omega)
    ·rw[Array.getElem?_setIfInBounds_ne (by omega)];exact h4 j (by omega) hja
    ·by_cases e:j=i
     ·subst e;exact Blk.new' (wr.setCell ⟨w2.heap.size,j,none⟩ (.slice (some ⟨wr.heap.size,0,none⟩) b.length b.length)) _ _ (by simp;omega)
     ·exact((h5 j (by omega)).far (show w2.heap.size+1+j≠w2.heap.size by omega) _).alloc _)
   clear hq;go_wp2;go_roundw;(case rel=>exact⟨i+1,_,by omega,by go_num,HN⟩);case measure=>simp[intOf];omega
  ·(obtain rfl:i=a.length:=by omega);clear hms;obtain⟨h1,h2,h3,h4,h5,h6,h7⟩:=hq.out;have hdn:=zUn (w:=w) h1 h3 h5 HCZ.out;have HDN:=hid hdn;have HSW:=hid (And.intro h6 h7);clear h1 h2 h3 h4 h5 h6 h7 hdn hq hi hlt HCE HCO HDO HDW HCZ;have HX:=hid (HRA.out.on (zE wr (.cells #[.slice none 0 0] 84)));have a0:=HRA.out.a.at0;have al:=HRA.out.a.lt;(have al1:w.heap.size<wr.heap.size+1:=by omega);have b0:=HRA.out.b.at0;have bl:=HRA.out.b.lt;(have bl1:w.heap.size+1<wr.heap.size+1:=by omega);have d0:=HRA.out.d.at0;have dl:=HRA.out.d.lt;(have dl1:w.heap.size+1+1<wr.heap.size+1:=by omega);have HBW:=hid HX.out.w
   have zN:=hid (zP1 (zBn HIA.out.dom) HIA.out.good HIB.out.good (zDw HIA.out.good HIB.out.good) (by rw[zH7];exact HSZ.out.1) HCC.out.1 HCC.out.2 AA AB D acap bcap dcap w2.heap.size (λj=>w2.heap.size+1+j) (ds.length+1) 0 0 ⟨[],zeros a.length b.length⟩ wr.heap.size (λc=>c=wr.heap.size) (λ_=>False) Z (wr.alloc (.cells #[.slice none 0 0] 84)) (zCd.2 ⟨⟨by decide,HIA.out.rng.2⟩,by decide,HIB.out.rng.2⟩) (zDg HIA.out HIB.out) (RInv.new _ _) (RkT.new _ wr) (HDN.out.below (zE wr _)) (HIN.out.1.keep (.of_below HBW.out)) (HIN.out.2.1.keep (.of_below HBW.out)) (HIN.out.2.2.1.keep (.of_below HBW.out)) (λc hc=>by
     have h1:=HIN.out.2.2.2 c hc;have h2:=HRA.out.w.size;have h3:=HS2.out;refine⟨λe=> ?_,λj _ e=> ?_,?_⟩
     ·have e:c=wr.heap.size:=e;omega
     ·have e:c=w2.heap.size+1+j:=e;omega
     ·simp;omega) ⟨⟨λe=>by have e:w2.heap.size=wr.heap.size:=e;have:=HSW.out.1;omega,λe=>e,by have:=HSW.out.1;simp;omega⟩,λj hj=>⟨λe=>by have e:w2.heap.size+1+j=wr.heap.size:=e;have:=HSW.out.1;omega,λe=>e,by have:=HSW.out.1;simp;omega⟩⟩)
   have zT8:=hid (zFV (zBn HIA.out.dom) HIA.out.good HIB.out.good (zDw HIA.out.good HIB.out.good) (ds.length+1) 0 0 ⟨[],zeros a.length b.length⟩ (zCd.2 ⟨⟨by decide,HIA.out.rng.2⟩,by decide,HIB.out.rng.2⟩) (zDg HIA.out HIB.out) (RInv.new _ _));have HAL:=hid (Nat.le_trans (zT8.out.1.length_le (zBn HIA.out.dom)) (by rw[zH7];exact HSZ.out.1));generalize zAH ds a b (ds.length+1) 0 0 ⟨[],zeros a.length b.length⟩=r at*;(go_wp2_with fail);refine zN.out.mono ?_;intro e w5 hp;obtain⟨rfl,⟨F',Z',hm5,hF5,hZ5⟩,-,hk5⟩:=hp
   have HB5:=hid (HX.out.keep hk5 (λc hc=>⟨λe=>by
    have e:c=wr.heap.size:=e;have h1:=HS2.out;have h2:=HSW.out.1;omega,λj _ e=>by
    have e:c=w2.heap.size+1+j:=e;have h1:=HS2.out
    omega⟩))
   have HZL:=hid (show ∀c,F' c∨Z' c->w2.heap.size≤c from λc hc=>by
    have h2:=HSW.out.1;rcases hc with hc|hc
    ·rcases hF5 c hc with h|h
     ·have h:c=wr.heap.size:=h;omega
     ·simp at h;omega
    ·rcases hZ5 c hc with h|h
     ·exact h.elim
     ·simp at h;omega)
   have zOs:=hid (zGk ds r.2.all zT8.out.1.tab.good (by have:=HAL.out;omega) wr.heap.size F' Z' r.1 w5 zT8.out.2.rng hm5);clear hF5 hZ5 hk5 hm5 zN a0 al al1 b0 bl bl1 d0 dl dl1;(go_wp2_with fail);refine zOs.out.mono ?_;rintro e w6 ⟨v6,rfl,hn6,hb6⟩;have HB6:=hid (HB5.out.on hb6)
   have hlive:zO (λc=>w.heap.size≤c∧c≠w.heap.size+1+1+1) w6 v6 (zAg ds r.2.all r.1).1:=hn6.mono λc hc=>by
    have h5:=HB5.out.r.lt;have h2:=HS2.out;rcases hc with hc|hc
    ·have:=HZL.out c (Or.inr hc);omega
    ·omega
   obtain⟨A6,cap6,rfl,-⟩:=hn6;have HN:=hid hlive;clear hlive hb6 zOs;have r0:=HB6.out.r.at0;have rf:w6.frozen? ⟨w.heap.size+1+1+1,0,none⟩=false:=HB6.out.r.frozen 0;have rl:=HB6.out.r.lt;go_wp2;have r1:=(HB6.out.r.set_ 0 (.slice A6 (zAg ds r.2.all r.1).1.length cap6)).cell 0;refine bodyPost_ret (v:= .tuple #[.agg #[.slice A6 (zAg ds r.2.all r.1).1.length cap6],.int .i64 (zAg ds r.2.all r.1).2]) (by simp[results,Tryz.results10,go_sem,r1]) rfl ?_;rw[HQ.out];exact⟨_,rfl,(HN.out.keep ((zA.refl _ _).setCell (λ_ h=>h.2 rfl) _)).mono (λc hc=>Or.inr hc.1),HB6.out.w.setCell (p:=⟨w.heap.size+1+1+1,0,none⟩) (by show w.heap.size≤w.heap.size+1+1+1;omega) _⟩
end Go.Proofs.YtonmdbdopchkaaaGreatDoor
