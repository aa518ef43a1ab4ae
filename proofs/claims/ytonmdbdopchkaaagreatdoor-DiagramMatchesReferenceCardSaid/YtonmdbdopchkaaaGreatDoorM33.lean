/- Texts W30 CS W31 W32 V5. -/
import Derived.Test.YtonmdbdopchkaaaGreatDoorM28
import Derived.Lib.SlicesCompact
import Derived.Lib.OwnBridge
import Derived.Sort.OwnSortedInts
import Derived.Test.YtonmdbdopchkaaaGreatDoorM29
set_option linter.all false
namespace Go.Proofs.YtonmdbdopchkaaaGreatDoor
open Go.RowKit
set_option maxHeartbeats 8000000
set_option maxRecDepth 100000
theorem Tryz.egStarts1:∀args w,(callFunc 78 args).run Tryz.prog w= .ok (.enter 78 args) w:=enters_of Tryz.func78 (by kernel_rfl) rfl
theorem Tryz.egStarts2:∀args w,(callFunc 80 args).run Tryz.prog w= .ok (.enter 80 args) w:=enters_of Tryz.func80 (by kernel_rfl) rfl
def prs(l:List Int):List Int:=l.flatMap λn=>[n,n+1]
theorem zE6(l m:List Int):prs (l++m)=prs l++prs m:=List.flatMap_append
mutual
theorem zMW(nm:ByteArray):∀f,(prs (z7 nm f)).length ≤2*zJ f
 | .mk op name _ nu kids=>by
  have h:=zEj nm kids;rw[z7,zE6,List.length_append,zJ];by_cases hc:op=3∧name=nm
  ·rw[if_pos hc];simp[prs]at h⊢;omega
  ·rw[if_neg hc];simp[prs]at h⊢;omega
theorem zEj(nm:ByteArray):∀l,(prs (zj nm l)).length ≤2*zX l
 |[]=>by simp[zj,prs]
 |k::r=>by
  have h1:=zMW nm k;have h2:=zEj nm r;rw[zj,zE6,List.length_append,zX];omega
end
theorem zFQ(nm:ByteArray):∀(l:List Fm)(k:Nat)(hk:k<l.length),zj nm (l.take (k+1))=zj nm (l.take k)++z7 nm l[k]
 |a::r,0,_=>by simp[zj]
 |a::r,k+1,hk=>by
  have:=zFQ nm r k (by simpa using hk);simp only[List.take_succ_cons,zj,List.getElem_cons_succ];rw[this,List.append_assoc]
theorem zH6(nm:ByteArray){n:Int}:∀{l:List Fm},(n∈zj nm l↔∃k∈l,n∈z7 nm k)
 |[]=>by simp[zj]
 |a::r=>by rw[zj,List.mem_append,zH6 nm (l:=r)];simp
structure StC (w:World) (X O V B:Nat) (K:zD) (x:zC) (Z:zD):Prop where
 x:Blk w X 76 #[.string x.name,.int .i64 x.kind,.int .i64 x.lo,.int .i64 x.hi]
 v:One w V (.func (.func 78) #[] #[.pointer (some ⟨X,0,none⟩),.pointer (some ⟨O,0,none⟩),.pointer (some ⟨V,0,none⟩)])
 off:∀b,(Z b∨b=X∨b=V)->K b
 o:¬K O
 size:B≤w.heap.size
 live:∀b,K b->b<w.heap.size
def StO(w:World)(O B:Nat)(K:zD)(xs:List Int):Prop:=∃vo,One w O vo∧w.ownsRow B 3 1 vo xs.length (xs.map (.int .i64))∧∀k,vo.ownBlock=some k->¬K k∧k≠O
theorem StC.keep{w w':World}{X O V B:Nat}{K:zD}{x:zC}{Z:zD}(h:StC w X O V B K x Z)(hk:zA K w w'):StC w' X O V B K x Z:=
 ⟨h.x.keep hk (h.off _ (Or.inr (Or.inl rfl))),h.v.keep hk (h.off _ (Or.inr (Or.inr rfl))),h.off,h.o,Nat.le_trans h.size hk.size,λb hb=>Nat.lt_of_lt_of_le (h.live b hb) hk.size⟩
theorem StO.alloc{w:World}{O B:Nat}{K:zD}{xs:List Int}(h:StO w O B K xs)(o:Obj):StO (w.alloc o) O B K xs:=by
 obtain⟨vo,h1,h2,h3⟩:=h;exact⟨vo,h1.alloc o,h2.alloc o,h3⟩
theorem zUT{w wa w5:World}{O B n:Nat}{K:zD}{v v5 v0:Value}{xs ys:List Int}{zs:List Value}(hb:Below w.heap.size w wa)(hO0:¬K O)(hlive:∀b,K b->b<w.heap.size)(ho:w.ownsRow B 3 1 v n zs)(hne:∀k,v.ownBlock=some k->¬K k∧k≠O)(hO:One w O v0)(hg:wa.grownBy w5 v.ownBlock)
  (hat:v5.ownBlock=v.ownBlock∨v5.ownBlock=some wa.heap.size)(hown:w5.ownsRow B 3 1 v5 (xs.length+ys.length) (xs.map (.int .i64)++ys.map (.int .i64))):
  One w5 O v0∧StO (w5.setCell ⟨O,0,none⟩ v5) O B K (xs++ys)∧zA K w (w5.setCell ⟨O,0,none⟩ v5)∧∀b,w.heap.size≤b->b<wa.heap.size->(w5.setCell ⟨O,0,none⟩ v5).heap[b]? =wa.heap[b]? :=by
 have hOl:=hO.lt;have hO5:One w5 O v0:=(hO.below hb hO.lt).of_block (hg.block O (Nat.lt_of_lt_of_le hO.lt hb.size) λe=>(hne O e.symm).2 rfl)
 have hn5:∀k,v5.ownBlock=some k->¬K k∧k≠O:=λk hk=>by
  rcases hat with h|h
  ·exact hne k (h▸hk)
  ·rw[h]at hk;injection hk with hk;have:=hb.size;exact⟨λhK=>by have:=hlive k hK;omega,by omega⟩
 refine⟨hO5,⟨v5,hO5.set_ v5,?_,hn5⟩,?_,λb h1 h2=> ?_⟩
 ·have:=zl (Z:=λc=>c≠O) hown ((zA.refl _ _).setCell (p:=⟨O,0,none⟩) (λ_ h=>h rfl) v5) (λk hk=>(hn5 k hk).2);simpa using this
 ·exact((zA.of_below hb).grown hg (λk hk _ hz=>(hne k hk).1 hz)).setCell (λ_ hz=>hO0 hz) _
 ·exact(Below.heap_setCell _ _ _ _ (by show b≠O;omega)).trans (hg.block b h2 λe=>by have:=(ho.lt b e.symm).2;omega)
theorem zRt{w:World}{g:Nat}{u v:Value}(h:w.cell? ⟨g,0,none⟩=some u)(h':w.cell? ⟨g,1,none⟩=some v):∀j x,[u,v][j]? =some x->w.cell? ⟨g,0+j,none⟩=some x:=λj x hx=>by
 match j with
 |0=>simp at hx;subst hx;simpa using h
 |1=>simp at hx;subst hx;simpa using h'
 |j+2=>simp at hx
theorem zPM(X O V B:Nat)(K:zD)(x:zC)(Z:zD):∀(m:Nat)(f:Fm),zJ f≤m->∀(cs:List Value)(xs:List Int)(w:World),FmR Z w f cs->xs.length+2*zJ f≤4000000->(∀n∈z7 x.name f,0≤n∧n≤1000000)->
  StC w X O V B K x Z->StO w O B K xs->
  Calls Tryz.prog 78 #[.agg cs.toArray,.pointer (some ⟨X,0,none⟩),.pointer (some ⟨O,0,none⟩),.pointer (some ⟨V,0,none⟩)] w λe w'=>
   e= .returned (.tuple #[])∧StO w' O B K (xs++prs (z7 x.name f))∧zA K w w':=by
 intro m
 induction m with
 |zero=>intro f hm;have:=zBE f;omega
 |succ m ih=>
 intro f hm cs xs w hf hlen hbd hC hO;have eg:=Tryz.egStarts1;have IH:=hid ih;clear ih;obtain⟨op,nm,cm,nu,kids⟩:=f;unfold FmR at hf;obtain⟨_,_,_,_,A,cap,rfl,hcap,_,hkb,hks⟩:=hf;have HS:=hid (zt.seq hks);clear hks;have hfs:=zBM (.mk op nm cm nu kids);simp only[Fm.kids]at hfs;have hkl:kids.length≤4000000:=by have h1:=zA8 kids;omega
 have hxl:xs.length≤4000000:=by omega
 have HL:=hid (And.intro hm (And.intro hlen hfs));have HBD:=hid (λk(hk:k∈kids) n(hn:n∈z7 x.name k)=>hbd n (by rw[z7];exact List.mem_append_right _ ((zH6 _).2 ⟨k,hk,hn⟩)));have hnu:op=3∧nm=x.name->0≤nu∧nu≤1000000:=λh=>hbd nu (by rw[z7,if_pos h];simp)
 have HT:=hid (show z7 x.name (.mk op nm cm nu kids)=(if op=3∧nm=x.name then[nu]else[])++zj x.name kids from by rw[z7]);obtain⟨vo,hov,hown,hne⟩:=hO;have v1:=hC.v.cell;have v2:=hC.v.lt;have o1:=hov.cell;have o2:=hov.lt;have x1:=hC.x.at0;have x2:=hC.x.lt;have HC:=hid hC;have hBs:=hC.size;clear hm hlen hfs hbd;by_cases hT:op=3∧nm=x.name
 ·obtain⟨rfl,rfl⟩:=hT;obtain⟨hn0,hn1⟩:=hnu ⟨rfl,rfl⟩;rw[if_pos ⟨rfl,rfl⟩]at HT;obtain⟨A0,cap0,rfl,-,-,-⟩:=Row.of_own hown (by decide);have HOV:=hid (And.intro hov (And.intro hown hne));clear hov hown hne hnu hC;go_enter Tryz.func78,Tryz.ntmps78
  go_upto_region 3 with(at_builtin;refine zf rfl (.tmp 17) (.tmp 23) _ rfl Tryz.underlying31 Tryz.eInt rfl ((HOV.out.2.1.alloc _).alloc _) rfl (news:=[.int .i64 nu,.int .i64 (nu+1)]) rfl (zRt (by simp) (by simp)) (by simp[Value.oneCell']) (by unfold maxLen;omega) (by omega) (by simp;omega) ?_;intro v5 w5 hown5 hg5 hat5;obtain⟨g5,cap5,hv5⟩:=zAZ (n:=xs.length+1) hown5;subst hv5;have hsn:=zUT (ys:=[nu,nu+1]) (zAy w _ _) HC.out.o HC.out.live HOV.out.2.1 HOV.out.2.2 HOV.out.1 hg5 hat5 hown5;have d0:=hsn.1.cell;have d1:=hsn.1.free;have d2:=hsn.1.lt;have HX:=hid hsn.2;clear hown5 hg5 hat5 hsn)
  have HX5:=hid (show StO (w5.setCell ⟨O,0,none⟩ (.slice (some ⟨g5,0,none⟩) (xs.length+1+1) cap5)) O B K (xs++prs [nu]) from HX.out.1);have HKW:=hid HX.out.2.1
  have c4:(w5.setCell ⟨O,0,none⟩ (.slice (some ⟨g5,0,none⟩) (xs.length+1+1) cap5)).cell? ⟨w.heap.size,4,none⟩=some (.slice A kids.length cap):=by
   rw[World.cell?_of_block (a:=⟨w.heap.size,4,none⟩) (HX.out.2.2 w.heap.size (Nat.le_refl _) (by simp;omega))];exact((Blk.new w 24 #[.int .i64 3,.string x.name,.int .i64 cm,.int .i64 nu,.slice A kids.length cap]).alloc _).cell 4
  clear HX d0 d1 d2;generalize (w5.setCell ⟨O,0,none⟩ (.slice (some ⟨g5,0,none⟩) (xs.length+1+1) cap5))=W at*;have HF1:=hid (show(prs [nu]).length ≤2 from by simp[prs]);generalize [nu]=fst at*;have c4l:=lt_of_cell c4;clear v1 v2 x1 x2;go_wp2;go_loopw[28] (λi wr=>∃k:Nat,k≤kids.length∧i= .int .i64 k∧StO wr O B K (xs++prs (fst++zj x.name (kids.take k)))∧zA K w wr) (λi _=>kids.length-(intOf i).toNat);case atStart=>exact⟨0,Nat.zero_le _,rfl,by simpa[zj]using HX5.out,HKW.out⟩
  case round=>
   clear c4 c4l;obtain⟨k,hk,rfl,hO,hkp⟩:=hrel;by_cases hlt:k<kids.length
   ·obtain⟨b,off,cs,rfl,hz,hcs,hfk⟩:=HS.out.at_ hlt;have hkz:zA Z w wr:=hkp.mono (λb _ hb=>HC.out.off b (Or.inl hb));have hfk':=FmR.keep hkz _ _ hfk;have HF:=hid hfk';obtain⟨A',cap',rfl⟩:=FmR.form hfk;have hCr:=HC.out.keep hkp
    have hbnd:(xs++prs (fst++zj x.name (kids.take k))).length +2*zJ kids[k]≤4000000:=by
     have hsz:=zAL hlt;have ht3:=zAU kids (k+1);have h1:=zEj x.name (kids.take k);have h2:=HL.out;have h3:=HF1.out;rw[List.length_append,zE6,List.length_append];omega
    have hle:=zAY hlt;have hm2:=HL.out.1;have hfs:=HL.out.2.2;clear hfk hfk';obtain⟨c0,c1,c2,c3,c4⟩:=zp (λj u hu=>hkz.cell (p:=⟨b,off+k*5+j,none⟩) hz (hcs j u hu));clear hcs;have cl:=lt_of_cell c0;have v1:=hCr.v.cell;have v2:=hCr.v.lt;have zN:=hid (λo=>IH.out kids[k] (by omega) _ _ (wr.alloc o) (FmR.keep ((zA.refl Z wr).alloc o) _ _ HF.out) hbnd (HBD.out kids[k] (List.getElem_mem hlt)) (hCr.keep ((zA.refl _ _).alloc o)) (hO.alloc o));have HTK:=hid (show xs++prs (fst++zj x.name (kids.take (k+1)))=xs++prs (fst++zj x.name (kids.take k))++prs (z7 x.name kids[k]) from by rw[zFQ _ _ _ hlt,<-List.append_assoc,zE6 (fst++_),List.append_assoc]);have HKP:=hid hkp;clear hO hkp hCr hkz hbnd hle hm2 hfs;generalize kids[k]=g at*;(go_wp2_with fail);refine(zN.out _).mono ?_;rintro e w1 ⟨rfl,hO1,hk1⟩;have H9:=hid (And.intro hO1 (HKP.out.trans (((zA.refl _ _).alloc _).trans hk1)));clear hO1 hk1;go_wp2;go_roundw;(case rel=>exact⟨k+1,by omega,by go_num,by rw[HTK.out];exact H9.out.1,H9.out.2⟩);case measure=>simp[intOf];omega
   ·(obtain rfl:k=kids.length:=by omega);rw[List.take_length]at hO;have HO9:=hid hO;have HKP:=hid hkp;clear hO hkp;go_wp2;go_end0;refine⟨rfl,?_,HKP.out⟩;rw[HT.out];exact HO9.out
 ·rw[if_neg hT]at HT
  have HX5:=hid (show StO (w.alloc (.cells #[.int .i64 op,.string nm,.int .i64 cm,.int .i64 nu,.slice A kids.length cap] 24)) O B K (xs++prs []) from by
   have:=StO.alloc (O:=O) (B:=B) (K:=K) (xs:=xs) (w:=w) ⟨vo,hov,hown,hne⟩ (.cells #[.int .i64 op,.string nm,.int .i64 cm,.int .i64 nu,.slice A kids.length cap] 24)
   simpa[prs]using this)
  have HKW:=hid (show zA K w (w.alloc (.cells #[.int .i64 op,.string nm,.int .i64 cm,.int .i64 nu,.slice A kids.length cap] 24)) from(zA.refl _ _).alloc _);have HF1:=hid (show(prs ([]:List Int)).length ≤2 from by simp[prs]);have HNT:=hid hT;generalize ([]:List Int)=fst at*;clear hov hown hne hnu hC o1 o2 hT;go_enter Tryz.func78,Tryz.ntmps78
  by_cases h3:op=3
  ·(have hn0:nm≠x.name:=λh=>HNT.out ⟨h3,h⟩);(have hn:(nm.toList==x.name.toList)=false:=by rw[zAq];simp[hn0]);clear hn0;subst h3;(go_upto_region 3 with fail);have c4:(w.alloc (.cells #[.int .i64 3,.string nm,.int .i64 cm,.int .i64 nu,.slice A kids.length cap] 24)).cell? ⟨w.heap.size,4,none⟩=some (.slice A kids.length cap):=(Blk.new w 24 #[.int .i64 3,.string nm,.int .i64 cm,.int .i64 nu,.slice A kids.length cap]).cell 4;generalize (w.alloc (.cells #[.int .i64 3,.string nm,.int .i64 cm,.int .i64 nu,.slice A kids.length cap] 24))=W at*;have c4l:=lt_of_cell c4;clear v1 v2 x1 x2;go_wp2;go_loopw[28] (λi wr=>∃k:Nat,k≤kids.length∧i= .int .i64 k∧StO wr O B K (xs++prs (fst++zj x.name (kids.take k)))∧zA K w wr) (λi _=>kids.length-(intOf i).toNat);case atStart=>exact⟨0,Nat.zero_le _,rfl,by simpa[zj]using HX5.out,HKW.out⟩
   case round=>
    clear c4 c4l;obtain⟨k,hk,rfl,hO,hkp⟩:=hrel;by_cases hlt:k<kids.length
    ·obtain⟨b,off,cs,rfl,hz,hcs,hfk⟩:=HS.out.at_ hlt;have hkz:zA Z w wr:=hkp.mono (λb _ hb=>HC.out.off b (Or.inl hb));have hfk':=FmR.keep hkz _ _ hfk;have HF:=hid hfk';obtain⟨A',cap',rfl⟩:=FmR.form hfk;have hCr:=HC.out.keep hkp
     have hbnd:(xs++prs (fst++zj x.name (kids.take k))).length +2*zJ kids[k]≤4000000:=by
      have hsz:=zAL hlt;have ht3:=zAU kids (k+1);have h1:=zEj x.name (kids.take k);have h2:=HL.out;have h3:=HF1.out;rw[List.length_append,zE6,List.length_append];omega
     have hle:=zAY hlt;have hm2:=HL.out.1;have hfs:=HL.out.2.2;clear hfk hfk';obtain⟨c0,c1,c2,c3,c4⟩:=zp (λj u hu=>hkz.cell (p:=⟨b,off+k*5+j,none⟩) hz (hcs j u hu));clear hcs;have cl:=lt_of_cell c0;have v1:=hCr.v.cell;have v2:=hCr.v.lt;have zN:=hid (λo=>IH.out kids[k] (by omega) _ _ (wr.alloc o) (FmR.keep ((zA.refl Z wr).alloc o) _ _ HF.out) hbnd (HBD.out kids[k] (List.getElem_mem hlt)) (hCr.keep ((zA.refl _ _).alloc o)) (hO.alloc o));have HTK:=hid (show xs++prs (fst++zj x.name (kids.take (k+1)))=xs++prs (fst++zj x.name (kids.take k))++prs (z7 x.name kids[k]) from by rw[zFQ _ _ _ hlt,<-List.append_assoc,zE6 (fst++_),List.append_assoc]);have HKP:=hid hkp;clear hO hkp hCr hkz hbnd hle hm2 hfs;generalize kids[k]=g at*;(go_wp2_with fail);refine(zN.out _).mono ?_;rintro e w1 ⟨rfl,hO1,hk1⟩;have H9:=hid (And.intro hO1 (HKP.out.trans (((zA.refl _ _).alloc _).trans hk1)));clear hO1 hk1;go_wp2;go_roundw;(case rel=>exact⟨k+1,by omega,by go_num,by rw[HTK.out];exact H9.out.1,H9.out.2⟩);case measure=>simp[intOf];omega
    ·(obtain rfl:k=kids.length:=by omega);rw[List.take_length]at hO;have HO9:=hid hO;have HKP:=hid hkp;clear hO hkp;go_wp2;go_end0;refine⟨rfl,?_,HKP.out⟩;rw[HT.out];exact HO9.out
  ·(go_upto_region 3 with fail);have c4:(w.alloc (.cells #[.int .i64 op,.string nm,.int .i64 cm,.int .i64 nu,.slice A kids.length cap] 24)).cell? ⟨w.heap.size,4,none⟩=some (.slice A kids.length cap):=(Blk.new w 24 #[.int .i64 op,.string nm,.int .i64 cm,.int .i64 nu,.slice A kids.length cap]).cell 4;generalize (w.alloc (.cells #[.int .i64 op,.string nm,.int .i64 cm,.int .i64 nu,.slice A kids.length cap] 24))=W at*;have c4l:=lt_of_cell c4;clear v1 v2 x1 x2;go_wp2;go_loopw[28] (λi wr=>∃k:Nat,k≤kids.length∧i= .int .i64 k∧StO wr O B K (xs++prs (fst++zj x.name (kids.take k)))∧zA K w wr) (λi _=>kids.length-(intOf i).toNat);case atStart=>exact⟨0,Nat.zero_le _,rfl,by simpa[zj]using HX5.out,HKW.out⟩
   case round=>
    clear c4 c4l;obtain⟨k,hk,rfl,hO,hkp⟩:=hrel;by_cases hlt:k<kids.length
    ·obtain⟨b,off,cs,rfl,hz,hcs,hfk⟩:=HS.out.at_ hlt;have hkz:zA Z w wr:=hkp.mono (λb _ hb=>HC.out.off b (Or.inl hb));have hfk':=FmR.keep hkz _ _ hfk;have HF:=hid hfk';obtain⟨A',cap',rfl⟩:=FmR.form hfk;have hCr:=HC.out.keep hkp
     have hbnd:(xs++prs (fst++zj x.name (kids.take k))).length +2*zJ kids[k]≤4000000:=by
      have hsz:=zAL hlt;have ht3:=zAU kids (k+1);have h1:=zEj x.name (kids.take k);have h2:=HL.out;have h3:=HF1.out;rw[List.length_append,zE6,List.length_append];omega
     have hle:=zAY hlt;have hm2:=HL.out.1;have hfs:=HL.out.2.2;clear hfk hfk';obtain⟨c0,c1,c2,c3,c4⟩:=zp (λj u hu=>hkz.cell (p:=⟨b,off+k*5+j,none⟩) hz (hcs j u hu));clear hcs;have cl:=lt_of_cell c0;have v1:=hCr.v.cell;have v2:=hCr.v.lt;have zN:=hid (λo=>IH.out kids[k] (by omega) _ _ (wr.alloc o) (FmR.keep ((zA.refl Z wr).alloc o) _ _ HF.out) hbnd (HBD.out kids[k] (List.getElem_mem hlt)) (hCr.keep ((zA.refl _ _).alloc o)) (hO.alloc o));have HTK:=hid (show xs++prs (fst++zj x.name (kids.take (k+1)))=xs++prs (fst++zj x.name (kids.take k))++prs (z7 x.name kids[k]) from by rw[zFQ _ _ _ hlt,<-List.append_assoc,zE6 (fst++_),List.append_assoc]);have HKP:=hid hkp;clear hO hkp hCr hkz hbnd hle hm2 hfs;generalize kids[k]=g at*;(go_wp2_with fail);refine(zN.out _).mono ?_;rintro e w1 ⟨rfl,hO1,hk1⟩;have H9:=hid (And.intro hO1 (HKP.out.trans (((zA.refl _ _).alloc _).trans hk1)));clear hO1 hk1;go_wp2;go_roundw;(case rel=>exact⟨k+1,by omega,by go_num,by rw[HTK.out];exact H9.out.1,H9.out.2⟩);case measure=>simp[intOf];omega
    ·(obtain rfl:k=kids.length:=by omega);rw[List.take_length]at hO;have HO9:=hid hO;have HKP:=hid hkp;clear hO hkp;go_wp2;go_end0;refine⟨rfl,?_,HKP.out⟩;rw[HT.out];exact HO9.out
theorem zHO(d:Array Int)(hs:∀i j,i≤j->j<d.size->d[i]! ≤d[j]!):∀m,m≤d.size->(Lib.compactUpTo d m).Pairwise (· < ·)∧∀v,v∈Lib.compactUpTo d m↔∃j,j<m∧d[j]! =v
 |0,_=>by simp[Lib.compactUpTo]
 |m+1,hm=>by
  obtain⟨h1,h2⟩:=zHO d hs m (by omega);rw[Lib.compactUpTo_succ];by_cases hk:Lib.keeps d m=true
  ·rw[if_pos hk];refine⟨List.pairwise_append.2 ⟨h1,by simp,λa ha b hb=> ?_⟩,λv=> ?_⟩
   ·rw[List.mem_singleton]at hb;subst hb;obtain⟨j,hj,rfl⟩:=(h2 a).1 ha;have e1:=hs j (m-1) (by omega) (by omega);have e2:=hs (m-1) m (by omega) (by omega);unfold Lib.keeps at hk;simp at hk;omega
   ·rw[List.mem_append,h2,List.mem_singleton];constructor
    ·rintro(⟨j,hj,rfl⟩|rfl)
     ·exact⟨j,by omega,rfl⟩
     ·exact⟨m,by omega,rfl⟩
    ·rintro⟨j,hj,rfl⟩;by_cases h:j=m
     ·subst h;exact Or.inr rfl
     ·exact Or.inl ⟨j,by omega,rfl⟩
  ·rw[if_neg hk,List.append_nil];refine⟨h1,λv=> ?_⟩;rw[h2];unfold Lib.keeps at hk;simp at hk;constructor
   ·rintro⟨j,hj,rfl⟩;exact⟨j,by omega,rfl⟩
   ·rintro⟨j,hj,rfl⟩;by_cases h:j=m
    ·subst h;exact⟨j-1,by omega,by omega⟩
    ·exact⟨j,by omega,rfl⟩
theorem zI7{l:List Int}(hs:l.Pairwise (· ≤ ·)):(Lib.compact l).Pairwise (· < ·)∧∀v,v∈Lib.compact l↔v∈l:=by
 have h:=zHO l.toArray (λi j hij hj=>by
  have hj':j<l.length:=by simpa using hj
  rw[getElem!_pos l.toArray i (by simp;omega),getElem!_pos l.toArray j hj];simp only[List.getElem_toArray];rcases Nat.lt_or_ge i j with h|h
  ·exact List.pairwise_iff_getElem.1 hs i j (by omega) hj' h
  ·obtain rfl:i=j:=by omega
   exact Int.le_refl _) l.length (by simp)
 refine⟨h.1,λv=>(h.2 v).trans ⟨?_,λhv=> ?_⟩⟩
 ·rintro⟨j,hj,rfl⟩;rw[getElem!_pos l.toArray j (by simpa using hj)];simp
 ·obtain⟨j,hj,rfl⟩:=List.getElem_of_mem hv;exact⟨j,hj,by rw[getElem!_pos l.toArray j (by simpa using hj)];simp⟩
theorem zEk{hi:Int}:∀{l:List Int}{lo:Int},(lo::l).Pairwise (· < ·)->(∀v∈l,v≤hi)->zk lo hi l
 |[],_,_,_=>trivial
 |a::r,lo,h,hh=>by
  rw[List.pairwise_cons]at h;exact⟨h.1 a (by simp),hh a (by simp),zEk h.2 λv hv=>hh v (by simp[hv])⟩
theorem zQl{f:Fm}{x:zC}(hx:x.lo≤x.hi)(p:Int->Bool)(hp:∀n,p n=true↔n<x.lo∨x.hi<n):
  Lib.compact ((((x.lo::(z7 x.name f).flatMap λn=>[n,n+1]).mergeSort λa b=>decide (a≤b))).filter λn=> !p n)=zK f x:=by
 generalize hq:((z7 x.name f).flatMap λn=>[n,n+1])=q
 have hsort:((x.lo::q).mergeSort λa b=>decide (a≤b)).Pairwise (· ≤ ·):=by
  have:=List.pairwise_mergeSort (le:=λa b:Int=>decide (a≤b)) (λa b c h1 h2=>by simp at h1 h2⊢;omega) (λa b=>by simp;omega) (x.lo::q);exact this.imp λh=>by simpa using h
 obtain⟨h1,h2⟩:=zI7 (hsort.filter λn=> !p n);generalize Lib.compact (((x.lo::q).mergeSort λa b=>decide (a≤b)).filter λn=> !p n)=L at*
 have hmem:∀v,v∈L↔(v=x.lo∨v∈q)∧x.lo≤v∧v≤x.hi:=λv=>by
  rw[h2,List.mem_filter,List.mem_mergeSort,List.mem_cons];have:=hp v;cases hpv:p v
  ·rw[hpv]at this;simp at this⊢;omega
  ·rw[hpv]at this;simp at this⊢;omega
 have hlo:x.lo∈L:=(hmem _).2 ⟨Or.inl rfl,Int.le_refl _,hx⟩
 cases L with
 |nil=>simp at hlo
 |cons a r=>
  rw[List.pairwise_cons]at h1
  have ha:a=x.lo:=by
   have:=((hmem a).1 (by simp)).2.1;rcases List.mem_cons.1 hlo with h|h
   ·exact h.symm
   ·have:=h1.1 _ h;omega
  subst ha;unfold zK;rw[hq];congr 1;refine zJQ (zEk (lo:=x.lo) (hi:=x.hi) (List.pairwise_cons.2 h1) λv hv=>((hmem v).1 (by simp[hv])).2.2) (zE1 λv hv=>by simpa using(List.mem_filter.1 hv).2) λv=> ?_
  rw[zCb,List.mem_filter];constructor
  ·intro hv;have h3:=(hmem v).1 (by simp[hv]);have h4:=h1.1 v hv;rcases h3.1 with h|h
   ·omega
   ·exact⟨h,by simp;omega⟩
  ·rintro⟨hv,h3⟩;simp at h3;rcases List.mem_cons.1 ((hmem v).2 ⟨Or.inr hv,by omega,by omega⟩)with h|h
   ·omega
   ·exact h
theorem zJ9(X:Nat)(x:zC)(n:Int)(w:World)(h:Blk w X 76 #[.string x.name,.int .i64 x.kind,.int .i64 x.lo,.int .i64 x.hi]):
  Calls Tryz.prog 80 #[.int .i64 n,.pointer (some ⟨X,0,none⟩)] w λe w'=>e= .returned (.bool (decide (n<x.lo)||decide (x.hi<n)))∧w'=w:=by
 have c2:=h.at2;have c3:=h.at3;have cl:=h.lt;generalize x.lo=lo at*;generalize x.hi=hi at*;clear h;go_enter Tryz.func80,Tryz.ntmps80
 by_cases h1:n<lo
 ·go_wp2;exact bodyPost_ret (v:= .bool true) (by simp[results,Tryz.results80,go_sem]) rfl ⟨by simp[h1],rfl⟩
 ·by_cases h2:hi<n
  ·go_wp2;exact bodyPost_ret (v:= .bool true) (by simp[results,Tryz.results80,go_sem]) rfl ⟨by simp,rfl⟩
  ·go_wp2;exact bodyPost_ret (v:= .bool false) (by simp[results,Tryz.results80,go_sem]) rfl ⟨by simp[h1,h2],rfl⟩
open Go.Sort in
theorem zI8{w:World}{g n:Nat}(d:Array Int)(os:Array Obj):zA (λb=>b≠g) w (grow (putRow (Value.int .i64) (Sort.ahead w n) g 0 d) os):=by
 have h:=grownBy_sortedI (w:=w) (g:=g) (n:=n) (os:=os) d;exact(zA.refl _ _).grown h (λk hk _ hz=>hz (Option.some.inj hk).symm)
open Go.Sort in
theorem zI9{w:World}{base g n cap:Nat}{e:TypeId}{zs:List Int}(h:w.ownsRow base e 1 (.slice (some ⟨g,0,none⟩) n cap) n (zs.map (.int .i64))):
  base≤g∧g<w.heap.size∧n≤cap∧cap≤maxLen∧zs.length=n∧Holds (Value.int .i64) w g 0 zs.toArray:=by
 obtain⟨g',cap',e,h1,h2,h3,h4,h5,h6⟩:=Lib.holds_of_ownsRow h (by simp);injection e with e1 e2 e3;injection e1 with e1;injection e1 with e1;subst e1 e3;exact⟨h1,h2,h3,h4,h5,h6⟩
theorem zNu{w:World}{base g n cap:Nat}{zs:List Int}(h:w.ownsRow base 3 1 (.slice (some ⟨g,0,none⟩) n cap) n (zs.map (.int .i64)))(hn:n<4611686018427387904):
  Calls Tryz.prog 45 #[.slice (some ⟨g,0,none⟩) n cap] w λe w'=>e= .returned (.tuple #[])∧w'.ownsRow base 3 1 (.slice (some ⟨g,0,none⟩) n cap) n ((zs.mergeSort λx y=>decide (x≤y)).map (.int .i64))∧zA (λb=>b≠g) w w':=by
 obtain⟨h1,h2,h3,h4,h5,h6⟩:=zI9 h;subst h5;refine(Tryz.slices_Sort_int g 0 cap zs w h6 h2 hn).mono ?_;rintro e w' ⟨rfl,q,os,rfl⟩;refine⟨rfl,?_,zI8 _ _⟩;rcases h.2 with⟨e0,_⟩|⟨g',cap',cur,e0,hb,hg,hn',hm,hs,ht⟩
 ·cases e0
 ·injection e0 with e1 _ e3;injection e1 with e1;injection e1 with e1;subst e1 e3;exact ownsRow_sortedI (ss:=zs) (by simp) hb hg hn' hm hs
theorem zPj{w:World}{base g n cap q:Nat}{e:TypeId}{zs ys:List Int}{m:Nat}(h:w.ownsRow base e 1 (.slice (some ⟨g,0,none⟩) n cap) n (zs.map (.int .i64)))(hm:ys.length+m=n):
  (Sort.putRow (Value.int .i64) (Sort.ahead w q) g 0 (ys++List.replicate m 0).toArray).ownsRow base e 1 (.slice (some ⟨g,0,none⟩) ys.length cap) ys.length (ys.map (.int .i64))∧zA (λb=>b≠g) w (Sort.putRow (Value.int .i64) (Sort.ahead w q) g 0 (ys++List.replicate m 0).toArray):=by
 refine⟨?_,?_⟩
 ·have:=Lib.ownsRow_putRow (q:=q) (k:=ys.length) (ys:=ys++List.replicate m 0) h (by simp;omega) (by omega);simpa using this
 ·have:=zI8 (w:=w) (g:=g) (n:=q) (ys++List.replicate m 0).toArray #[];rwa[Sort.grow_empty]at this
theorem zQm{w:World}{base g n cap X:Nat}{zs:List Int}{x:zC}(h:w.ownsRow base 3 1 (.slice (some ⟨g,0,none⟩) n cap) n (zs.map (.int .i64)))(hX:Blk w X 76 #[.string x.name,.int .i64 x.kind,.int .i64 x.lo,.int .i64 x.hi])(hne:X≠g):
  Calls Tryz.prog 79 #[.slice (some ⟨g,0,none⟩) n cap,.func (.func 80) #[] #[.pointer (some ⟨X,0,none⟩)]] w λe w'=>
   ∃ys,ys=zs.filter (λn=> !(decide (n<x.lo)||decide (x.hi<n)))∧e= .returned (.slice (some ⟨g,0,none⟩) ys.length cap)∧w'.ownsRow base 3 1 (.slice (some ⟨g,0,none⟩) ys.length cap) ys.length (ys.map (.int .i64))∧zA (λb=>b≠g) w w':=by
 obtain⟨h1,h2,h3,h4,h5,h6⟩:=zI9 h;have hmx:cap≤9223372036854775807:=by simpa[maxLen]using h4
 subst h5
 have hd:=Tryz.slices_DeleteFunc (Value.int .i64) (λ_=>rfl) (λn=>decide (n<x.lo)||decide (x.hi<n)) 80 #[.pointer (some ⟨X,0,none⟩)] Tryz.egStarts2 0 Tryz.zeroInt g 0 cap zs.toArray w
  (λW n hb=>(zJ9 X x n W (hX.below hb hX.lt)).mono λe w' h=>⟨h.1,0,h.2⟩)
  (λm os dk n _=>(zJ9 X x n _ (hX.keep (zI8 dk os) hne)).mono λe w' h=>⟨h.1,0,h.2⟩) h6 (by simp;omega) (by simpa using h3)
 refine hd.mono ?_;rintro e w' ⟨rfl,q,rfl⟩;have hle:(zs.filter (λn=> !(decide (n<x.lo)||decide (x.hi<n)))).length ≤zs.length:=List.length_filter_le _ _;obtain⟨p1,p2⟩:=zPj (q:=q) (ys:=zs.filter (λn=> !(decide (n<x.lo)||decide (x.hi<n)))) (m:=zs.length-(zs.filter (λn=> !(decide (n<x.lo)||decide (x.hi<n)))).length) h (by omega);exact⟨_,rfl,rfl,p1,p2⟩
theorem zJa{w:World}{base g n cap:Nat}{zs:List Int}(h:w.ownsRow base 3 1 (.slice (some ⟨g,0,none⟩) n cap) n (zs.map (.int .i64))):
  Calls Tryz.prog 46 #[.slice (some ⟨g,0,none⟩) n cap] w λe w'=>
   ∃ys,ys=Lib.compact zs∧e= .returned (.slice (some ⟨g,0,none⟩) ys.length cap)∧w'.ownsRow base 3 1 (.slice (some ⟨g,0,none⟩) ys.length cap) ys.length (ys.map (.int .i64))∧zA (λb=>b≠g) w w':=by
 obtain⟨h1,h2,h3,h4,h5,h6⟩:=zI9 h;have hmx:cap≤9223372036854775807:=by simpa[maxLen]using h4
 subst h5;refine(Tryz.slices_Compact_int g 0 cap zs w h6 (by omega) h3).mono ?_;rintro e w' ⟨rfl,q,rfl⟩;have hle:=Lib.compact_length_le zs;obtain⟨p1,p2⟩:=zPj (q:=q) (ys:=Lib.compact zs) (m:=zs.length-(Lib.compact zs).length) h (by omega);exact⟨_,rfl,rfl,p1,p2⟩
def zGC(w:World)(fc:Array Value)(x:zC):World:=
 ((((w.alloc (.cells fc 24)).alloc (.cells #[.string x.name,.int .i64 x.kind,.int .i64 x.lo,.int .i64 x.hi] 76)).alloc (.cells #[.int .i64 x.lo] 3)).alloc (.cells #[.slice (some ⟨w.heap.size+1+1,0,none⟩) 1 1] 31)).alloc
  (.cells #[.func (.func 78) #[] #[.pointer (some ⟨w.heap.size+1,0,none⟩),.pointer (some ⟨w.heap.size+1+1+1,0,none⟩),.pointer (some ⟨w.heap.size+1+1+1+1,0,none⟩)]] 122)
def zGD(w:World):zD:=λb=>b<w.heap.size∨b=w.heap.size+1∨b=w.heap.size+1+1+1+1
theorem zNv{w:World}{fc:Array Value}{x:zC}{Z:zD}(hz:∀b,Z b->b<w.heap.size):
  StC (zGC w fc x) (w.heap.size+1) (w.heap.size+1+1+1) (w.heap.size+1+1+1+1) (w.heap.size+1+1) (zGD w) x Z∧StO (zGC w fc x) (w.heap.size+1+1+1) (w.heap.size+1+1) (zGD w) [x.lo]∧Below w.heap.size w (zGC w fc x):=by
 have hb:Below w.heap.size w (zGC w fc x):=(((((Below.refl _ _).alloc (Nat.le_refl _) _).alloc (by simp) _).alloc (by simp;omega) _).alloc (by simp;omega) _).alloc (by simp;omega) _;have hs:(zGC w fc x).heap.size =w.heap.size+1+1+1+1+1:=by simp[zGC]
 refine⟨⟨?_,?_,λb hb=> ?_,?_,by omega,λb hb=> ?_⟩,⟨.slice (some ⟨w.heap.size+1+1,0,none⟩) 1 1,?_,?_,λk hk=> ?_⟩,hb⟩
 ·have:=(((Blk.new (w.alloc (.cells fc 24)) 76 #[.string x.name,.int .i64 x.kind,.int .i64 x.lo,.int .i64 x.hi]).alloc (.cells #[.int .i64 x.lo] 3)).alloc (.cells #[.slice (some ⟨w.heap.size+1+1,0,none⟩) 1 1] 31)).alloc
   (.cells #[.func (.func 78) #[] #[.pointer (some ⟨w.heap.size+1,0,none⟩),.pointer (some ⟨w.heap.size+1+1+1,0,none⟩),.pointer (some ⟨w.heap.size+1+1+1+1,0,none⟩)]] 122)
  simp only[World.size_alloc]at this;exact this
 ·exact zGK _ _ _ (by simp)
 ·rcases hb with h|rfl|rfl
  ·exact Or.inl (hz b h)
  ·exact Or.inr (Or.inl rfl)
  ·exact Or.inr (Or.inr rfl)
 ·unfold zGD;omega
 ·unfold zGD at hb;omega
 ·exact(zGK _ _ _ (by simp)).alloc _
 ·have h:=Blk.new ((w.alloc (.cells fc 24)).alloc (.cells #[.string x.name,.int .i64 x.kind,.int .i64 x.lo,.int .i64 x.hi] 76)) 3 #[.int .i64 x.lo];simp only[World.size_alloc]at h
  have h2:=(h.alloc (.cells #[.slice (some ⟨w.heap.size+1+1,0,none⟩) 1 1] 31)).alloc
   (.cells #[.func (.func 78) #[] #[.pointer (some ⟨w.heap.size+1,0,none⟩),.pointer (some ⟨w.heap.size+1+1+1,0,none⟩),.pointer (some ⟨w.heap.size+1+1+1+1,0,none⟩)]] 122)
  exact⟨rfl,Or.inr ⟨w.heap.size+1+1,1,_,rfl,Nat.le_refl _,h2,Nat.le_refl _,by decide,rfl,rfl⟩⟩
 ·have:w.heap.size+1+1=k:=Option.some.inj hk;unfold zGD;omega
theorem zQn(Z:zD)(f:Fm)(x:zC)(cs:List Value)(w:World)(hf:FmR Z w f cs)(hz:∀b,Z b->b<w.heap.size)(hs:zJ f≤1000000)(hbd:∀n∈z7 x.name f,0≤n∧n≤1000000)(hfit:x.fit)(hx:x.lo≤x.hi):
  Calls Tryz.prog 34 #[.agg cs.toArray,.agg #[.string x.name,.int .i64 x.kind,.int .i64 x.lo,.int .i64 x.hi]] w λe w'=>
   ∃v,e= .returned v∧w'.ownsRow w.heap.size 3 1 v (zK f x).length ((zK f x).map (.int .i64))∧Below w.heap.size w w':=by
 have eg1:=Tryz.egStarts1;have eg2:=Tryz.egStarts2;obtain⟨A,cap,rfl⟩:=FmR.form hf;have HF:=hid hf;have HX:=hid (And.intro hfit (And.intro hx (And.intro hs hbd)));clear hf hfit hx hs hbd;go_enter Tryz.func34,Tryz.ntmps34
 have HS:=hid (zNv (w:=w) (fc:=#[.int .i64 f.op,.string f.name,.int .i64 f.cmp,.int .i64 f.num,.slice A f.kids.length cap]) (x:=x) hz);go_wp2_with fail
 refine(zPM _ _ _ _ (zGD w) x Z (zJ f) f (Nat.le_refl _) _ [x.lo] _ (FmR.keep (.of_below (HS.out.2.2)) _ _ HF.out) (by have:=HX.out.2.2.1;simp;omega) HX.out.2.2.2 HS.out.1 HS.out.2.1).mono ?_;rintro e w1 ⟨rfl,hO1,hk1⟩
 have hlen:([x.lo]++prs (z7 x.name f)).length ≤4000000:=by
  have h1:=zMW x.name f;have:=HX.out.2.2.1;rw[List.length_append];simp;omega
 obtain⟨vo,ho1,hown1,hne1⟩:=hO1;have hpos:([x.lo]++prs (z7 x.name f)).length =(prs (z7 x.name f)).length +1:=by simp
 have hown1':=hown1;rw[hpos]at hown1';obtain⟨g,c1,hv⟩:=zAZ hown1';rw[<-hpos]at hv;subst hv;have hg:=hne1 g rfl;have hC1:=HS.out.1.keep hk1;have hb1:=zGz ((zFJ HS.out.2.2).trans (hk1.mono λb _ hb=>Or.inl hb)) (Nat.le_refl _);have zLv:=hid (zQl (f:=f) HX.out.2.1 (λn=>decide (n<x.lo)||decide (x.hi<n)) (λn=>by simp));have HQ:=hid (show[x.lo]++prs (z7 x.name f)=x.lo::(z7 x.name f).flatMap λn=>[n,n+1] from rfl);rw[<-HQ.out]at zLv;clear hown1' hpos;generalize [x.lo]++prs (z7 x.name f)=zs at*;have H1:=hid (And.intro ho1 (And.intro hown1 (And.intro hC1.x (And.intro hg hb1))));have o1:=ho1.cell;have o2:=ho1.lt;have hc5:=zNu hown1 (by omega);have HC5:=hid hc5;clear ho1 hown1 hC1 hg hb1 hc5 HQ hne1 hk1;go_wp2_with fail
 refine HC5.out.mono ?_;rintro e w2 ⟨rfl,hown2,hk2⟩;have hgO:w.heap.size+1+1+1≠g:=λe=>H1.out.2.2.2.1.2 e.symm
 have hgX:w.heap.size+1≠g:=λe=>H1.out.2.2.2.1.1 (Or.inr (Or.inl e.symm))
 have ho2:=H1.out.1.keep hk2 hgO;have hx2:=H1.out.2.2.1.keep hk2 hgX;have hgw:w.heap.size≤g:=Nat.le_of_not_lt λh=>H1.out.2.2.2.1.1 (Or.inl h)
 have hbel2:Below w.heap.size w w2:=zA1 H1.out.2.2.2.2 hk2 hgw H1.out.2.2.2.2.size;clear o1 o2 HC5;have o1:=ho2.cell;have o2:=ho2.lt;have HD:=hid (zQm (X:=w.heap.size+1) hown2 hx2 hgX);have H2:=hid (And.intro ho2 hbel2);have HG:=hid (And.intro hgO hgw);clear hgO hgX ho2 hx2 hgw hbel2 hown2 hk2;go_wp2_with fail
 refine HD.out.mono ?_;rintro e w3 ⟨ys,hys,rfl,hown3,hk3⟩;have ho3:=H2.out.1.keep hk3 HG.out.1;have hbel3:Below w.heap.size w w3:=zA1 H2.out.2 hk3 HG.out.2 H2.out.2.size;clear o1 o2 HD;have o1:=ho3.cell;have o2:=ho3.lt;have o3:=ho3.free
 have hown4:=zl hown3 ((zA.refl (λb=>b≠w.heap.size+1+1+1) _).setCell (p:=⟨w.heap.size+1+1+1,0,none⟩) (λ_ h=>h rfl) (.slice (some ⟨g,0,none⟩) ys.length c1)) (λk hk=>by
  have:g=k:=Option.some.inj hk;have:=HG.out.1
  omega)
 have HC:=hid (zJa hown4);have HB3:=hid (hbel3.setCell (p:=⟨w.heap.size+1+1+1,0,none⟩) (by show w.heap.size≤w.heap.size+1+1+1;omega) (.slice (some ⟨g,0,none⟩) ys.length c1));have HO:=hid (ho3.set_ (.slice (some ⟨g,0,none⟩) ys.length c1));rw[<-hys]at zLv;clear ho3 hbel3 hown3 hk3 hys hown4;go_upto_region 7 with fail
 generalize (w3.setCell ⟨w.heap.size+1+1+1,0,none⟩ (.slice (some ⟨g,0,none⟩) ys.length c1))=w4 at*;clear o1 o2 o3;have o1:=HO.out.cell;have o2:=HO.out.lt;go_wp2_with fail
 refine HC.out.mono ?_;rintro e w5 ⟨zs',hzs,rfl,hown5,hk5⟩;have hz5:zs'=zK f x:=hzs.trans zLv.out;have HP:=hid (show w5.ownsRow w.heap.size 3 1 (.slice (some ⟨g,0,none⟩) zs'.length c1) zs'.length (zs'.map (.int .i64))∧Below w.heap.size w w5 from⟨zH5 hown5 (by omega),zA1 HB3.out hk5 HG.out.2 HB3.out.size⟩);rw[hz5]at HP;clear hown5 hk5 hzs o1 o2 HC HO;have hz6:=hid hz5;clear hz5;go_wp2;refine bodyPost_ret (v:= .slice (some ⟨g,0,none⟩) zs'.length c1) (by simp[results,Tryz.results34,go_sem]) rfl ⟨_,rfl,?_,HP.out.2⟩;rw[hz6.out];exact HP.out.1
theorem Tryz.egTested:∀args w,(callFunc 28 args).run Tryz.prog w= .ok (.enter 28 args) w:=enters_of Tryz.func28 (by kernel_rfl) rfl
theorem zu.alloc{κ:Type}[DecidableEq κ]{enc:κ->Value}{w:World}{b:Nat}{kv:List (κ × Value)}(h:zu enc w b kv)(o:Obj):zu enc (w.alloc o) b kv:=h.of_block (Below.heap_alloc _ _ _ h.lt)
def zBd(kv:List (ByteArray × Value))(l:List ByteArray):List (ByteArray × Value):=l.foldl (λkv n=>zAt kv n (.bool true)) kv
theorem zJb(kv:List (ByteArray × Value))(l m:List ByteArray):zBd kv (l++m)=zBd (zBd kv l) m:=List.foldl_append
theorem zCx:∀(l:List Fm)(k:Nat)(hk:k<l.length),zS (l.take (k+1))=zS (l.take k)++zAC l[k]
 |a::r,0,_=>by simp[zS]
 |a::r,k+1,hk=>by
  have:=zCx r k (by simpa using hk);simp only[List.take_succ_cons,zS,List.getElem_cons_succ];rw[this,List.append_assoc]
theorem zQo(mb:Nat)(Z:zD)(hZ:¬Z mb):∀(m:Nat)(f:Fm),zJ f≤m->∀(cs:List Value)(kv:List (ByteArray × Value))(w:World),FmR Z w f cs->zJ f≤4000000->zu encS w mb kv->
  Calls Tryz.prog 28 #[.agg cs.toArray,.map (some mb)] w λe w'=>
   e= .returned (.map (some mb))∧zu encS w' mb (zBd kv (zAC f))∧zA (λb=>b≠mb) w w':=by
 intro m
 induction m with
 |zero=>intro f hm;have:=zBE f;omega
 |succ m ih=>
 intro f hm cs kv w hf hlen hM;have eg:=Tryz.egTested;have IH:=hid ih;clear ih;obtain⟨op,nm,cm,nu,kids⟩:=f;unfold FmR at hf;obtain⟨_,_,_,_,A,cap,rfl,hcap,_,hkb,hks⟩:=hf;have HS:=hid (zt.seq hks);clear hks;have hfs:=zBM (.mk op nm cm nu kids);simp only[Fm.kids]at hfs;have hkl:kids.length≤4000000:=by have h1:=zA8 kids;omega
 have HL:=hid (And.intro hm (And.intro hlen hfs));have HT:=hid (show zAC (.mk op nm cm nu kids)=(if op=3 then[nm]else[])++zS kids from by rw[zAC]);have HM:=hid (hM.alloc (.cells #[.int .i64 op,.string nm,.int .i64 cm,.int .i64 nu,.slice A kids.length cap] 24));have hml:=hM.lt;clear hm hlen hfs hM;by_cases h3:op=3
 ·subst h3;rw[if_pos rfl]at HT;go_enter Tryz.func28,Tryz.ntmps28
  go_upto_region 3 with(at_mapUpdate;refine zBm rfl (.tmp 10) (.tmp 12) _ rfl (zCY (P:=Tryz.prog) (k:=9) Tryz.underlying9) (e:=4) Tryz.underlying56 rfl HM.out nm rfl ?_;intro W hm1 hk1 hsz1 hce1 hfr1)
  have HX5:=hid (show zu encS W mb (zBd kv [nm]) from hm1);have HKW:=hid (((zA.refl (λb=>b≠mb) w).alloc (.cells #[.int .i64 3,.string nm,.int .i64 cm,.int .i64 nu,.slice A kids.length cap] 24)).trans hk1);have c4:W.cell? ⟨w.heap.size,4,none⟩=some (.slice A kids.length cap):=((Blk.new w 24 #[.int .i64 3,.string nm,.int .i64 cm,.int .i64 nu,.slice A kids.length cap]).keep hk1 (by show w.heap.size≠mb;omega)).cell 4;clear hm1 hk1 hsz1 hce1 hfr1;generalize [nm]=fst at*;have c4l:=lt_of_cell c4;go_wp2;go_loopw[16] (λi wr=>∃k:Nat,k≤kids.length∧i= .int .i64 k∧zu encS wr mb (zBd kv (fst++zS (kids.take k)))∧zA (λb=>b≠mb) w wr) (λi _=>kids.length-(intOf i).toNat);case atStart=>exact⟨0,Nat.zero_le _,rfl,by simpa[zS]using HX5.out,HKW.out⟩
  case round=>
   clear c4 c4l;obtain⟨k,hk,rfl,hO,hkp⟩:=hrel;by_cases hlt:k<kids.length
   ·obtain⟨b,off,cs,rfl,hz,hcs,hfk⟩:=HS.out.at_ hlt;have hkz:zA Z w wr:=hkp.mono (λb _ hb e=>hZ (e▸hb));have hfk':=FmR.keep hkz _ _ hfk;have HF:=hid hfk';obtain⟨A',cap',rfl⟩:=FmR.form hfk
    have hbnd:zJ kids[k]≤4000000:=by
     have:=zAY hlt;have:=HL.out;omega
    have hle:=zAY hlt;have hm2:=HL.out.1;have hfs:=HL.out.2.2;clear hfk hfk';obtain⟨c0,c1,c2,c3,c4⟩:=zp (λj u hu=>hkz.cell (p:=⟨b,off+k*5+j,none⟩) hz (hcs j u hu));clear hcs;have cl:=lt_of_cell c0;have zN:=hid (λo=>IH.out kids[k] (by omega) _ _ (wr.alloc o) (FmR.keep ((zA.refl Z wr).alloc o) _ _ HF.out) hbnd (hO.alloc o));have HTK:=hid (show zBd kv (fst++zS (kids.take (k+1)))=zBd (zBd kv (fst++zS (kids.take k))) (zAC kids[k]) from by rw[zCx _ _ hlt,<-List.append_assoc,zJb]);have HKP:=hid hkp;clear hO hkp hkz hbnd hle hm2 hfs;generalize kids[k]=g at*;(go_wp2_with fail);refine(zN.out _).mono ?_;rintro e w1 ⟨rfl,hO1,hk1⟩;have H9:=hid (And.intro hO1 (HKP.out.trans (((zA.refl _ _).alloc _).trans hk1)));clear hO1 hk1;go_wp2;go_roundw;(case rel=>exact⟨k+1,by omega,by go_num,by rw[HTK.out];exact H9.out.1,H9.out.2⟩);case measure=>simp[intOf];omega
   ·(obtain rfl:k=kids.length:=by omega);rw[List.take_length]at hO;have HO9:=hid hO;have HKP:=hid hkp;clear hO hkp;go_wp2;refine bodyPost_ret (v:= .map (some mb)) (by simp[results,Tryz.results28,go_sem]) rfl ⟨rfl,?_,HKP.out⟩;rw[HT.out];exact HO9.out
 ·rw[if_neg h3]at HT;have HX5:=hid (show zu encS (w.alloc (.cells #[.int .i64 op,.string nm,.int .i64 cm,.int .i64 nu,.slice A kids.length cap] 24)) mb (zBd kv []) from HM.out);have HKW:=hid ((zA.refl (λb=>b≠mb) w).alloc (.cells #[.int .i64 op,.string nm,.int .i64 cm,.int .i64 nu,.slice A kids.length cap] 24));generalize ([]:List ByteArray)=fst at*;go_enter Tryz.func28,Tryz.ntmps28
  go_upto_region 3 with fail
  have c4:(w.alloc (.cells #[.int .i64 op,.string nm,.int .i64 cm,.int .i64 nu,.slice A kids.length cap] 24)).cell? ⟨w.heap.size,4,none⟩=some (.slice A kids.length cap):=(Blk.new w 24 #[.int .i64 op,.string nm,.int .i64 cm,.int .i64 nu,.slice A kids.length cap]).cell 4;clear HM;generalize (w.alloc (.cells #[.int .i64 op,.string nm,.int .i64 cm,.int .i64 nu,.slice A kids.length cap] 24))=W at*;have c4l:=lt_of_cell c4;go_wp2;go_loopw[16] (λi wr=>∃k:Nat,k≤kids.length∧i= .int .i64 k∧zu encS wr mb (zBd kv (fst++zS (kids.take k)))∧zA (λb=>b≠mb) w wr) (λi _=>kids.length-(intOf i).toNat);case atStart=>exact⟨0,Nat.zero_le _,rfl,by simpa[zS]using HX5.out,HKW.out⟩
  case round=>
   clear c4 c4l;obtain⟨k,hk,rfl,hO,hkp⟩:=hrel;by_cases hlt:k<kids.length
   ·obtain⟨b,off,cs,rfl,hz,hcs,hfk⟩:=HS.out.at_ hlt;have hkz:zA Z w wr:=hkp.mono (λb _ hb e=>hZ (e▸hb));have hfk':=FmR.keep hkz _ _ hfk;have HF:=hid hfk';obtain⟨A',cap',rfl⟩:=FmR.form hfk
    have hbnd:zJ kids[k]≤4000000:=by
     have:=zAY hlt;have:=HL.out;omega
    have hle:=zAY hlt;have hm2:=HL.out.1;have hfs:=HL.out.2.2;clear hfk hfk';obtain⟨c0,c1,c2,c3,c4⟩:=zp (λj u hu=>hkz.cell (p:=⟨b,off+k*5+j,none⟩) hz (hcs j u hu));clear hcs;have cl:=lt_of_cell c0;have zN:=hid (λo=>IH.out kids[k] (by omega) _ _ (wr.alloc o) (FmR.keep ((zA.refl Z wr).alloc o) _ _ HF.out) hbnd (hO.alloc o));have HTK:=hid (show zBd kv (fst++zS (kids.take (k+1)))=zBd (zBd kv (fst++zS (kids.take k))) (zAC kids[k]) from by rw[zCx _ _ hlt,<-List.append_assoc,zJb]);have HKP:=hid hkp;clear hO hkp hkz hbnd hle hm2 hfs;generalize kids[k]=g at*;(go_wp2_with fail);refine(zN.out _).mono ?_;rintro e w1 ⟨rfl,hO1,hk1⟩;have H9:=hid (And.intro hO1 (HKP.out.trans (((zA.refl _ _).alloc _).trans hk1)));clear hO1 hk1;go_wp2;go_roundw;(case rel=>exact⟨k+1,by omega,by go_num,by rw[HTK.out];exact H9.out.1,H9.out.2⟩);case measure=>simp[intOf];omega
   ·(obtain rfl:k=kids.length:=by omega);rw[List.take_length]at hO;have HO9:=hid hO;have HKP:=hid hkp;clear hO hkp;go_wp2;refine bodyPost_ret (v:= .map (some mb)) (by simp[results,Tryz.results28,go_sem]) rfl ⟨rfl,?_,HKP.out⟩;rw[HT.out];exact HO9.out
theorem Tryz.egVisit:∀args w,(callFunc 58 args).run Tryz.prog w= .ok (.enter 58 args) w:=enters_of Tryz.func58 (by kernel_rfl) rfl
structure Ord (g:List zB) (o:List Int):Prop where
 rng:∀x∈o,Rng g x
 nodup:o.Nodup
theorem Ord.len{g:List zB}{o:List Int}(h:Ord g o):o.length≤g.length:=zD6 _ _ h.nodup h.rng
theorem Ord.nil(g:List zB):Ord g []:=⟨by simp,by simp⟩
theorem Ord.snoc{g:List zB}{o:List Int}{i:Int}(h:Ord g o)(hi:Rng g i)(hm:i∉o):Ord g (o++[i]):=
 ⟨λx hx=>(List.mem_append.1 hx).elim (h.rng x) λhx=>by simp at hx;rw[hx];exact hi,by
  rw[List.nodup_append]
  exact⟨h.nodup,by simp,λa ha b hb e=>by simp at hb;subst hb;exact hm (e▸ha)⟩⟩
theorem Ord.visit{ds:List zC}{g:List zB}(hg:Good ds g){k:Nat}{i:Int}{o:List Int}(h:Ord g o)(hi:Rng g i)(hr:zBr ds g i<k):Ord g (z8 g k i o):=
 have v:=(zEA hg k i o hi hr h.rng h.nodup).1
 ⟨v.rng,v.nodup⟩
theorem Ord.fold{ds:List zC}{g:List zB}(hg:Good ds g){k:Nat}:∀(l o:List Int),(∀x∈l,Rng g x∧zBr ds g x<k)->Ord g o->Ord g (l.foldl (λo x=>z8 g k x o) o)
 |[],_,_,h=>h
 |a::l,o,hl,h=>Ord.fold hg l _ (λx hx=>hl x (List.mem_cons_of_mem _ hx)) (h.visit hg (hl a (by simp)).1 (hl a (by simp)).2)
theorem zRu{g:List zB}{k:Nat}{l o:List Int}{j:Nat}(hj:j<l.length):(l.take (j+1)).foldl (λo x=>z8 g k x o) o=z8 g k l[j] ((l.take j).foldl (λo x=>z8 g k x o) o):=by
 rw[List.take_succ_eq_append_getElem hj,List.foldl_append];rfl
theorem zPN{B:Nat}{Z:zD}{w w':World}(h:Below B w w')(hz:∀b,Z b->b<B):zA Z w w':=(zFJ h).mono λb _ hb=>hz b hb
theorem zIa{ds:List zC}{g:List zB}(hg:Good ds g)(hgl:g.length≤1000000)(A:Option Addr)(cap base:Nat)(Z:zD)(hz:∀b,Z b->b<base):∀(k:Nat)(i:Int)(o:List Int)(vo:Value)(w:World),zBr ds g i<k->Rng g i->Ord g o->base≤w.heap.size->
  zO Z w (.slice A g.length cap) g->w.ownsRow base 3 1 vo o.length (o.map (.int .i64))->
  Calls Tryz.prog 58 #[.slice A g.length cap,.int .i64 i,vo] w λe w'=>∃v',e= .returned v'∧w'.ownsRow base 3 1 v' (z8 g k i o).length ((z8 g k i o).map (.int .i64))∧Below base w w':=by
 intro k
 induction k with
 |zero=>intro i o vo w hr;omega
 |succ k ih=>
 intro i o vo w hr hi hord hbase hN hown;have eg:=Tryz.egVisit;have IH:=hid ih;clear ih;have HV:=hid (show z8 g (k+1) i o=if i∈o then o else(nAt g i).kids.foldl (λo x=>z8 g k x o) (o++[i]) from rfl);have HN:=hid hN;obtain⟨A',cap',hA',hcap,hlen,hat⟩:=hN.open_;injection hA' with q1 q2 q3;subst q1 q3;clear q2;obtain⟨OA,ocap,rfl,hoc,hom,hor⟩:=Row.of_own hown (by decide);have hol:=hord.len;obtain⟨ii,rfl⟩:=Int.eq_ofNat_of_zero_le hi.1;have hii:ii<g.length:=by have:=hi.2;omega
 have HAT:=hid (hat ii hii)
 have HKR:=hid (λx(hx:x∈(nAt g (ii:Int)).kids)=>(show Rng g x∧zBr ds g x<k from by
  have:=hg.rank_kid hi hx
  exact⟨this.1,by omega⟩))
 have hnat:nAt g (ii:Int)=g[ii]:=zAI hii;have HOR:=hid hord;have HOW:=hid hown;have HI:=hid hi;rw[hnat]at HKR HV;have zOb:=hid hor;clear hat hN hr hi hord hown hor hnat;go_enter Tryz.func58,Tryz.ntmps58
 go_wp2;go_loop[7] (λix=>∃j:Nat,j≤o.length∧ix= .int .i64 j∧Hid ((ii:Int)∉o.take j)) (λix=>o.length-(intOf ix).toNat);case atStart=>exact⟨0,Nat.zero_le _,rfl,hid (by simp)⟩
 case round=>
  obtain⟨j,hj,rfl,hnm⟩:=hrel;by_cases hlt:j<o.length
  ·obtain⟨ob,ooff,rfl,-,hoc⟩:=zOb.out (by intro e;have:=congrArg List.length e;simp at this;subst this;simp at hlt);have c0:w.cell? ⟨ob,ooff+j,none⟩=some (.int .i64 o[j]):=hoc j _ (by rw[List.getElem?_map,List.getElem?_eq_getElem hlt];rfl);have cl:=lt_of_cell c0;(have hj1:((j:Nat):Int)<(o.length:Int):=by omega);(have hj0:(0:Int)≤((j:Nat):Int):=by omega);by_cases he:o[j]=(ii:Int)
   ·(have e1:(o[j]==(ii:Int))=true:=by simp[he]);have HE:=hid (HV.out.trans (if_pos (he▸List.getElem_mem hlt)));clear he hnm hoc;generalize o[j]=y at*;go_wp2;go_ret;rw[HE.out];exact⟨_,rfl,HOW.out,Below.refl _ _⟩
   ·have e1:(o[j]==(ii:Int))=false:=by simp[he]
    have HN2:=hid (show(ii:Int)∉o.take (j+1) from λhm=>by
     rw[List.take_succ_eq_append_getElem hlt,List.mem_append]at hm;rcases hm with hm|hm
     ·exact hnm.out hm
     ·simp at hm;exact he hm.symm)
    clear he hnm hoc;generalize o[j]=y at*;go_wp2;go_round;(case rel=>exact⟨j+1,by omega,by go_num,HN2⟩);case measure=>simp[intOf];omega
  ·(obtain rfl:j=o.length:=by omega);(have hni:(ii:Int)∉o:=by have:=hnm.out;rwa[List.take_length]at this);have HE:=hid (HV.out.trans (if_neg hni));have HO2:=hid (HOR.out.snoc HI.out hni);clear hnm hni HV;go_wp2_with(at_builtin;refine zf rfl (.tmp 22) (.tmp 24) _ rfl Tryz.underlying31 Tryz.eInt rfl (HOW.out.alloc _) rfl (news:=[.int .i64 ii]) rfl (one_cell (by simp)) (by simp[Value.oneCell']) (by unfold maxLen;omega) (by omega) (by simp;omega) ?_;intro v5 w5 hown5 hg5 hat5);have hbw:Below base w w5:=zx ((Below.refl base w).alloc hbase _) (HOW.out.alloc _) hg5 (by simp;omega) (Nat.le_refl _)
   have hown6:w5.ownsRow base 3 1 v5 (o++[(ii:Int)]).length ((o++[(ii:Int)]).map (.int .i64)):=by
    rw[List.length_append,List.length_singleton,List.map_append];exact hown5
   have HW5:=hid (And.intro hbw hown6);clear hbw hown5 hg5 hat5 hown6;obtain⟨nb,noff,vcu,vki,rfl,hzb,hnb,c0,c1,c2,c3,hf,hcu,hki⟩:=HAT.out;have HKI:=hid hki;obtain⟨⟨K,kcap,rfl,hkcap,hkcap2,hklen,-⟩,-⟩:=hki;have HC3:=hid (λW(hW:Below base w W)=>brd hW c3 (hz nb hzb));have HNL:=hid (λW(hW:Below base w W)=>Nat.lt_of_lt_of_le hnb hW.size);(have hi1:(ii:Int)<(g.length:Int):=by omega);(have hi0:(0:Int)≤(ii:Int):=by omega);clear c0 c1 c2 c3 hf hcu HAT;generalize g[ii]=n at*;have HNK:=hid (λW(hW:Below base w W)=>HN.out.keep (zPN hW hz));go_wp2;go_loopw[2,8] (λov ix wr=>∃(j:Nat)(v2:Value),j≤n.kids.length∧ix= .int .i64 j∧v2=ov∧wr.ownsRow base 3 1 v2 ((n.kids.take j).foldl (λo x=>z8 g k x o) (o++[(ii:Int)])).length (((n.kids.take j).foldl (λo x=>z8 g k x o) (o++[(ii:Int)])).map (.int .i64))∧Below base w wr) (λ_ ix _=>n.kids.length-(intOf ix).toNat);case atStart=>exact⟨0,v5,Nat.zero_le _,rfl,rfl,HW5.out.2,HW5.out.1⟩
   case round=>
    obtain⟨j,v2,hj,rfl,rfl,how,hbel⟩:=hrel;have c3:=HC3.out _ hbel;have nl:=HNL.out _ hbel;by_cases hlt:j<n.kids.length
    ·obtain⟨kb,koff,rfl,hzk,hkb,hkc⟩:=HKI.out.at_ hlt;have hkc2:=brd hbel hkc (hz kb hzk);have hkl:=lt_of_cell hkc2;have hx:=HKR.out n.kids[j] (List.getElem_mem hlt);have hord:=Ord.fold hg (n.kids.take j) (o++[(ii:Int)]) (λx hx=>HKR.out x (List.mem_of_mem_take hx)) HO2.out;have zN:=hid (IH.out n.kids[j] ((n.kids.take j).foldl (λo x=>z8 g k x o) (o++[(ii:Int)])) v2 wr hx.2 hx.1 hord (Nat.le_trans hbase hbel.size) (HNK.out _ hbel) how);rw[<-zRu hlt]at zN;(have hj1:((j:Nat):Int)<(n.kids.length:Int):=by omega);(have hj0:(0:Int)≤((j:Nat):Int):=by omega);have HB:=hid hbel;clear hkc hx hord how hbel;generalize n.kids[j]=x at*;(go_wp2_with fail);refine zN.out.mono ?_;rintro e w6 ⟨v6,rfl,how6,hb6⟩;have HN6:=hid (And.intro how6 (HB.out.trans hb6));clear how6 hb6;go_wp2;go_roundw;(case rel=>exact⟨j+1,v6,by omega,by go_num,rfl,HN6.out.1,HN6.out.2⟩);case measure=>simp[intOf];omega
    ·(obtain rfl:j=n.kids.length:=by omega);rw[List.take_length]at how;have HH:=hid (And.intro how hbel);clear how hbel;go_wp2;go_ret;rw[HE.out];exact⟨_,rfl,HH.out.1,HH.out.2⟩
end Go.Proofs.YtonmdbdopchkaaaGreatDoor
