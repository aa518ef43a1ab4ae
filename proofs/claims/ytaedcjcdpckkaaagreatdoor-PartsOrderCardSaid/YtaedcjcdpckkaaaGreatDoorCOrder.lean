/- Texts RO RPOrder. -/
import Derived.Test.YtaedcjcdpckkaaaGreatDoorM46
import Derived.Test.YtaedcjcdpckkaaaGreatDoorCards
import Derived.Test.YtaedcjcdpckkaaaGreatDoorTie
import Derived.SevenTiedAt
set_option linter.all false
namespace Go.Proofs.YtaedcjcdpckkaaaGreatDoor
open Go.RowKit
set_option maxHeartbeats 16000000
set_option maxRecDepth 100000
section
open Go.Shelf
theorem order_err{l:List ProdD}{o:List ByteArray}{e:Int}(h:orderP l=(o,e))(he:e≠0):o=[]:=by
 unfold orderP at h;split at h
 ·injection h with h _;exact h.symm
 split at h
 ·injection h with h _;exact h.symm
 split at h
 ·injection h with h _;exact h.symm
 split at h
 ·injection h with h _;exact h.symm
 split at h
 ·injection h with h _;exact h.symm
 ·injection h with _ h;exact absurd h.symm he
theorem made_ints(c:Nat):madeCells #[Value.int .i64 0] c=Array.replicate c (Value.int .i64 0):=by
 apply Array.ext';rw[toList_madeCells_one];simp
theorem run_makeI(c:Nat)(hc:c≤100000000)(W:World):
  (Instr.makeSlice 46 (.int .i64 (c:Int)) (.int .i64 (c:Int))).run Tryz.prog W= .ok (.slice (some ⟨W.heap.size,0,none⟩) c c) (W.alloc (.cells (Array.replicate c (Value.int .i64 0)) 3)):=by
 obtain⟨i0,hi0,e0⟩:=Option.map_eq_some_iff.1 (show(Tryz.prog.info? 3).map (λi=>(i.zero,i.size,i.bytes))=some (some (.int .i64 0),1,8) from by kernel_rfl);simp only[Prod.mk.injEq]at e0;obtain⟨hz0,hsz0,hby0⟩:=e0;have hms:=run_make (w:=W) 46 3 i0 (.int .i64 0) Tryz.underlying46 hi0 hz0 .i64 .i64 (c:Int) (c:Int) (by omega) (Int.le_refl _) (by rw[hby0];omega) (by omega);simp only[Int.toNat_natCast,hsz0,Nat.mul_one]at hms;rw[hms,show(Value.int .i64 0).cells =#[.int .i64 0] from rfl,made_ints]
def cellsI(l:List Int):Array Value:=(l.map (Value.int .i64)).toArray
theorem zeros_at(l:List ProdD)(o:List ByteArray):cellsI (atS l o 0)=Array.replicate l.length (Value.int .i64 0):=by
 rw[atS_zero];apply Array.ext';simp[cellsI]
theorem cellsI_get{W:World}{b:Nat}{l:List Int}(h:Blk W b 3 (cellsI l)){k:Nat}(hk:k<l.length):W.cell? ⟨b,k,none⟩=some (.int .i64 l[k]):=by
 rw[h.cell k];simp[cellsI,hk]
theorem cellsI_set{W:World}{b:Nat}{l:List Int}(h:Blk W b 3 (cellsI l))(k:Nat)(u:Int):Blk (W.setCell ⟨b,k,none⟩ (.int .i64 u)) b 3 (cellsI (l.set k u)):=by
 have h1:=h.set_ k (.int .i64 u)
 have e:(cellsI l).setIfInBounds k (.int .i64 u)=cellsI (l.set k u):=by
  apply Array.ext';rw[Array.toList_setIfInBounds];simp[cellsI,List.map_set]
 rwa[e]at h1
theorem find_at{l:List ProdD}{id:ByteArray}(h:id∈idsP l):∃k,∃hk:k<l.length,findP l id=(k:Int)∧l[k].id =id:=by
 rcases findP_spec l id with⟨k,hk,h1,h2,_⟩|⟨_,_,h2⟩
 ·exact⟨k,hk,h1,h2⟩
 ·exact absurd h h2
theorem partsOrder_any(Z:Zone)(v:Value)(l:List ProdD)(w:World)(h:Prods Z w v l)(hz:∀b,Z b->b<w.heap.size)(htab:TabB w.heap.size w):
  Calls Tryz.prog 4 #[v] w λe w'=>e= .returned (.bool true)∧Below w.heap.size w w':=by
 obtain⟨A,cap,rfl,hll,hs⟩:=h.form;have HP:=hid (λW(hW:Below w.heap.size w W)=>h.keep (Keeps.of_below hW));have HZ:=hid hz;have HTAB:=hid htab;clear hs hz htab h;go_enter Tryz.func4,Tryz.ntmps4
 go_wp2_with fail
 refine(head28_any w HTAB.out).mono ?_;rintro e w1 ⟨rfl,hb1⟩;have HFW:=hid (few28_any Z (λ_=>False) (.slice A l.length cap) (.slice none 0 0) l [] 10 w1 (HP.out w1 hb1) (no_rates _ _));have HB1:=hid hb1;clear hb1;by_cases hfew:fewP l [] 10=true
 ·rw[hfew]at HFW
  have hll:l.length≤10:=by
   unfold fewP at hfew;simp only[Bool.and_eq_true,decide_eq_true_eq]at hfew;have:=hfew.1.2;omega
  clear hfew;go_wp2_with fail
  refine HFW.out.mono ?_;rintro e w2 ⟨rfl,hw⟩;subst hw;have HO:=hid (order_any Z _ l w1 (HP.out w1 HB1.out) (λb hb=>Nat.lt_of_lt_of_le (HZ.out b hb) HB1.out.size));generalize hgo:orderP l=oe at*;obtain⟨o,ee⟩:=oe;have HGO:=hid hgo;clear hgo HFW;go_wp2_with fail
  refine HO.out.mono ?_;rintro e w2 ⟨vo,he,hown,hb2⟩;rw[HGO.out]at he hown;subst he;have HB2:=hid (HB1.out.trans (hb2.mono HB1.out.size));obtain⟨OA,ocap,hvo,-,-,hrow⟩:=Row.of_own hown (by decide);dsimp only at hvo hrow;subst hvo;have HROW:=hid hrow;clear hown hb2 hrow HO HB1;by_cases hee:ee=0
  ·subst hee;have HOK:=hid (orderP_ok HGO.out);have hlo:=HOK.out.len;rw[hlo];clear hlo;have hms:=run_makeI l.length (by omega);(go_upto_region 10 with fail);have HA0:=hid (show Blk (w2.alloc (.cells (Array.replicate l.length (Value.int .i64 0)) 3)) w2.heap.size 3 (cellsI (atS l o 0)) from by rw[zeros_at];exact Blk.new w2 _ _);have HB3:=hid (below1 w2 (.cells (Array.replicate l.length (Value.int .i64 0)) 3));generalize w2.alloc (.cells (Array.replicate l.length (Value.int .i64 0)) 3)=w3 at*;have HAL:=hid (show w.heap.size≤w2.heap.size from HB2.out.size);have HBB:=hid (λW(hW:Below w2.heap.size w2 W)=>(HB2.out.trans (hW.mono HB2.out.size):Below w.heap.size w W));obtain⟨AB,hAB⟩:∃AB,AB=w2.heap.size:=⟨_,rfl⟩;have HAB:=hid hAB;rw[<-hAB]at HA0⊢;clear hAB hms;(go_wp2_with fail);go_loopw[7,8] (λiv kv wr=>∃k:Nat,k≤l.length∧iv= .int .i64 k∧Blk wr AB 3 (cellsI (atS l o k))∧Hid (Below w2.heap.size w2 wr)) (λiv _ _=>l.length-(intOf iv).toNat);case atStart=>exact⟨0,Nat.zero_le _,rfl,HA0.out,HB3⟩
   case round=>
    obtain⟨k,hk,rfl,hblk,HBR⟩:=hrel;by_cases hlt:k<l.length
    ·(have hko:k<o.length:=by rw[HOK.out.len];exact hlt);obtain⟨p,off,hOA,-,hc⟩:=StrRow.at_ (HROW.out.keep (Keeps.of_below HBR.out)) hko;subst hOA;obtain⟨j,hj,hf,hid_⟩:=find_at (HOK.out.ord.ids _ (List.getElem_mem hko));obtain⟨h0,hset⟩:=atS_step HOK.out hko hj hid_;have HF:=hid (find28_any Z (.slice A l.length cap) l o[k] wr (HP.out wr (HBB.out wr HBR.out)));rw[hf]at HF;have c0:=hc;have cl:=lt_of_cell hc;have a0:=cellsI_get hblk (k:=j) (by rw[atS_length];exact hj);rw[h0]at a0;have af:=hblk.frozen j;have al:=hblk.lt;(have hk1:((k:Nat):Int)<(l.length:Int):=by omega);(have hk0:(0:Int)≤((k:Nat):Int):=by omega);(have hj1:((j:Nat):Int)<(l.length:Int):=by omega);(have hj0:(0:Int)≤((j:Nat):Int):=by omega);have HN:=hid (show Blk (wr.setCell ⟨AB,j,none⟩ (.int .i64 ((k:Int)+1))) AB 3 (cellsI (atS l o (k+1)))∧Hid (Below w2.heap.size w2 (wr.setCell ⟨AB,j,none⟩ (.int .i64 ((k:Int)+1)))) from⟨by rw[<-hset];exact cellsI_set hblk j _,hid (HBR.out.setCell (by rw[HAB.out];exact Nat.le_refl _) _)⟩);clear hblk hc hf h0 hset hid_ HA0 HB3;generalize o[k]=x at*;(go_wp2_with fail);refine HF.out.mono ?_;rintro e wq ⟨rfl,hw⟩;subst hw;clear HF;(go_wp2_with fail);go_roundw;(case rel=>exact⟨k+1,by omega,by go_num,HN.out.1,HN.out.2⟩);case measure=>simp[intOf];omega
    ·(obtain rfl:k=l.length:=by omega);have HBK:=hid hblk;(rename World=>w4);clear hblk HA0 HB3 hlt hk;(go_wp2_with fail);go_loopw[9,10,11,12,13] (λiv _ _ _ _ wr=>∃i:Nat,i≤l.length∧iv= .int .i64 i∧Hid (Blk wr AB 3 (cellsI (atS l o l.length)))∧Hid (Below w2.heap.size w2 wr)) (λiv _ _ _ _ _=>l.length-(intOf iv).toNat);case atStart=>exact⟨0,Nat.zero_le _,rfl,HBK,HBR⟩
     case round=>
      (rename World=>w5);obtain⟨i,hi,rfl,HB5,HR5⟩:=hrel;by_cases hil:i<l.length
      ·have hpm:=HOK.out.all _ (List.mem_map_of_mem (f:=ProdD.id) (List.getElem_mem hil));obtain⟨A0,cap0,e0,-,hs0⟩:=(HP.out w (.refl _ _)).form;injection e0 with e1 _ e3;subst e1 e3;obtain⟨b,off,cs,hA,hzb,hc,hR⟩:=hs0.at_ hil;subst hA;obtain⟨CA,ccap,PA,pcap,rfl,-,hcomp,-⟩:=hR.form2;have c4:w.cell? ⟨b,off+i*5+4,none⟩=_:=hc 4 _ rfl;have HC4:=hid (λW(hW:Below w.heap.size w W)=>(And.intro (brd hW c4 (lt_of_cell c4)) (Nat.lt_of_lt_of_le (lt_of_cell c4) hW.size):W.cell? ⟨b,off+i*5+4,none⟩=_∧b<W.heap.size));have HAI:=hid (atS_full HOK.out hil);have HDN:=hid (λc hc=>HOK.out.down (List.getElem_mem hil) (c:=c) hc);have HKN:=hid (λc hc=>HOK.out.known _ (List.getElem_mem hil) c hc)
       have HSN:=hid (λ(n:Nat)(hno:n<o.length)(hn:n<rk o l[i].id)(hr:∀c∈partsOf l[i],rk o c<n)=>(show findP l o[n]≤(i:Int)∧0≤findP l o[n] from by
        obtain⟨j,hj,e,hji⟩:=HOK.out.soon hil hn hr;rw[<-e,findP_get HOK.out.ids hj]
        omega))
       have hrl:=rk_lt hpm;rw[HOK.out.len]at hrl;obtain⟨PA',pcap',e',hpl',hps⟩:=hcomp.form;injection e' with e1 _ e3;subst e1 e3;have HPS:=hid hps;have HPM:=hid (show ∀j(hj:j<l[i].parts.length),l[i].parts[j].prod ∈partsOf l[i] from λj hj=>List.mem_map_of_mem (List.getElem_mem hj))
       have HTK:=hid (show ∀j(hj:j<l[i].parts.length),(partsOf l[i]).take (j+1)=(partsOf l[i]).take j++[l[i].parts[j].prod] from λj hj=>by
        unfold partsOf
        rw[List.take_succ_eq_append_getElem (by rw[List.length_map];exact hj),List.getElem_map])
       have HTL:=hid (show(partsOf l[i]).take l[i].parts.length =partsOf l[i] from List.take_of_length_le (by unfold partsOf;rw[List.length_map];exact Nat.le_refl _));have HLT:=hid (show ∀n,n<rk o l[i].id ->n<o.length from λn hn=>Nat.lt_trans hn (rk_lt hpm));have HII:=hid (atS_length l o o.length▸hil:i<(atS l o o.length).length)
       have HAIX:Hid ((atS l o l.length)[i]'(by rw[atS_length];exact hil)=(rk o l[i].id :Int)+1):=by
        have h1:=HAI.out;refine hid (Eq.trans ?_ h1);congr 1;rw[HOK.out.len]
       clear HAI HII hpm hcomp hR hzb hc c4 hs0 hps;generalize l[i]=p at*;generalize hr:rk o p.id=r at*;have HR:=hid hr;clear hr;(have hrl0:((r:Nat):Int)<(l.length:Int):=by omega);(have hi1:((i:Nat):Int)<(l.length:Int):=by omega);(have hi0:(0:Int)≤((i:Nat):Int):=by omega);(go_wp2_with fail);go_loopw[10,11,12] (λrv kv _ wr=>∃(j rd:Nat),j≤p.parts.length∧rv= .int .i64 rd∧kv= .int .i64 j∧rd≤r∧Hid (∀c∈(partsOf p).take j,rk o c<rd)∧Hid (Blk wr AB 3 (cellsI (atS l o l.length)))∧Hid (Below w2.heap.size w2 wr)) (λ_ kv _ _=>p.parts.length-(intOf kv).toNat);case atStart=>exact⟨0,0,Nat.zero_le _,rfl,rfl,Nat.zero_le _,hid (by simp),HB5,HR5⟩
       case round=>
        (rename World=>w6);obtain⟨j,rd,hj,rfl,rfl,hrd,HCS,HB6,HR6⟩:=hrel;have hbw:=HBB.out w6 HR6.out;obtain⟨q4,ql4⟩:=HC4.out w6 hbw;by_cases hjl:j<p.parts.length
        ·obtain⟨pb,poff,pcs,rfl,hzp,hpc,hpe⟩:=HPS.out.at_ hjl;subst hpe;obtain⟨d0,d1⟩:=comp_cells hpc;have q0:=brd hbw d0 (lt_of_cell d0);have ql0:=Nat.lt_of_lt_of_le (lt_of_cell d0) hbw.size;have hcp:=HPM.out j hjl;obtain⟨m,hm,hf,hmid⟩:=find_at (HKN.out _ hcp);have HF:=hid (find28_any Z _ l p.parts[j].prod w6 (HP.out w6 hbw));rw[hf]at HF;have hdn:=HDN.out _ hcp;have a1:=cellsI_get HB6.out (k:=m) (by rw[atS_length];exact hm)
         have e1:(atS l o l.length)[m]'(by rw[atS_length];exact hm)=(rk o p.parts[j].prod :Int)+1:=by
          rw[atS_get hm,hmid,if_pos (by have:=hdn;omega)]
         rw[e1]at a1;have HE1:=hid e1;have a2:=cellsI_get HB6.out (k:=i) (by rw[atS_length];exact hil);rw[HAIX.out]at a2;have al:=HB6.out.lt
         have HNX:=hid (λ(rd':Nat)(h1:rd≤rd')(h2:rk o p.parts[j].prod <rd')=>(show ∀c∈(partsOf p).take (j+1),rk o c<rd' from λc hc=>by
          rw[HTK.out j hjl]at hc;rcases List.mem_append.1 hc with hc|hc
          ·exact Nat.lt_of_lt_of_le (HCS.out c hc) h1
          ·rw[List.mem_singleton.1 hc];exact h2))
         (have hk1:((j:Nat):Int)<(p.parts.length:Int):=by omega);(have hk0:(0:Int)≤((j:Nat):Int):=by omega);(have hm1:((m:Nat):Int)<(l.length:Int):=by omega);(have hm0:(0:Int)≤((m:Nat):Int):=by omega);clear hf hmid e1 d0 d1 hpc hzp hcp hbw;generalize p.parts[j]=cc at*;generalize rk o cc.prod=q at*;(have hqr:¬((q:Int)+1≥(r:Int)+1):=by omega);(go_wp2_with fail);refine HF.out.mono ?_;rintro e wq ⟨rfl,hw⟩;subst hw;clear HF;(go_wp2_with fail);go_quiet(fail);have HB7:=hid (HB6.out.below (below_drewN' (Below.refl _ w6) nq) HB6.out.lt);have HR7:=hid (HR6.out.trans ((below_drewN' (Below.refl _ w6) nq).mono HR6.out.size));clear a1 a2 q0 q4 ql0 ql4 al;generalize w6.drewN nq=w7 at*;have a1:=cellsI_get HB7.out (k:=m) (by rw[atS_length];exact hm);rw[HE1.out]at a1;have al:=HB7.out.lt;by_cases hmx:(q:Int)+1>(rd:Int)
         ·(go_wp2_with fail);go_roundw;(case rel=>exact⟨j+1,q+1,by omega,by go_num,by go_num,by omega,hid (HNX.out (q+1) (by omega) (by omega)),HB7,HR7⟩);case measure=>simp[intOf];omega
         ·(go_wp2_with fail);go_roundw;(case rel=>exact⟨j+1,rd,by omega,by go_num,by go_num,by omega,hid (HNX.out rd (by omega) (by omega)),HB7,HR7⟩);case measure=>simp[intOf];omega
        ·(obtain rfl:j=p.parts.length:=by omega);have HCA:=hid (show ∀c∈partsOf p,rk o c<rd from λc hc=>HCS.out c (by rw[HTL.out];exact hc));clear HCS hjl hj;(go_wp2_with fail);go_loopw[13] (λnv wr=>∃m:Nat,m≤r∧rd≤m∧nv= .int .i64 m∧Hid (Blk wr AB 3 (cellsI (atS l o l.length)))∧Hid (Below w2.heap.size w2 wr)) (λnv _=>r-(intOf nv).toNat);case atStart=>exact⟨rd,hrd,Nat.le_refl _,rfl,HB6,HR6⟩
         case round=>
          (rename World=>w8);obtain⟨m,hm,hrm,rfl,HB8,HR8⟩:=hrel;have a2:=cellsI_get HB8.out (k:=i) (by rw[atS_length];exact hil);rw[HAIX.out]at a2;have al:=HB8.out.lt;by_cases hmr:m<r
          ·have hmo:=HLT.out m hmr;obtain⟨hf1,hf2⟩:=HSN.out m hmo hmr (λc hc=>Nat.lt_of_lt_of_le (HCA.out c hc) hrm);obtain⟨sb,soff,hOA,-,hsc⟩:=StrRow.at_ (HROW.out.keep (Keeps.of_below HR8.out)) hmo;subst hOA;have HF:=hid (find28_any Z _ l o[m] w8 (HP.out w8 (HBB.out w8 HR8.out)));have sl:=lt_of_cell hsc;(have hm1:((m:Nat):Int)<(r:Int)+1-1:=by omega);(have hm2:((m:Nat):Int)<(l.length:Int):=by omega);(have hm0:(0:Int)≤((m:Nat):Int):=by omega);generalize findP l o[m]=f at*;(have hfi:¬f>(i:Int):=by omega);clear hf1 hf2;generalize o[m]=x at*;(go_wp2_with fail);refine HF.out.mono ?_;rintro e wq ⟨rfl,hw⟩;subst hw;clear HF;(go_wp2_with fail);go_roundw;(case rel=>exact⟨m+1,by omega,by omega,by go_num,HB8,HR8⟩);case measure=>simp[intOf];omega
          ·(obtain rfl:m=r:=by omega);(have hm1:¬((m:Nat):Int)<(m:Int)+1-1:=by omega);(go_wp2_with fail);go_roundw;(case rel=>exact⟨i+1,by omega,by go_num,HB8,HR8⟩);case measure=>simp[intOf];omega
      ·(obtain rfl:i=l.length:=by omega);(go_wp2_with fail);go_ret;exact⟨rfl,HBB.out _ HR5.out⟩
  ·have ho:=order_err HGO.out hee;subst ho;(have hne:(ee==(0:Int))=false:=by simp[hee]);(go_wp2_with fail);go_ret;exact⟨rfl,HB2.out⟩
 ·have hfew:fewP l [] 10=false:=by simpa using hfew
  rw[hfew]at HFW;go_wp2_with fail
  refine HFW.out.mono ?_;rintro e w2 ⟨rfl,hw⟩;subst hw;go_wp2_with fail
  go_ret;exact⟨rfl,HB1.out⟩
end
section
open Go.ChangeShapes Go.WideShapes Go.ChangeAt
theorem partsorder_lifted(os:Os)(started:os.Started)(H:Type)(enc:TypeId × Value->H):
  ReturnsInHanded {} Tryz.checked os 4 .any (λw args=>(Rows.partsOrderSpec.pre enc Tryz.prog Tryz.f4 [] false w args∧laidMetH Tryz.prog laid7 w)∧sizedMet enc Tryz.prog Tryz.f4 (OpenSpec.ofChange Rows.partsOrderSpec) false w args)
   (Rows.partsOrderSpec.post enc Tryz.prog Tryz.f4 false true false false):=by
 refine returnsInHanded_of_change_and (C:=Tryz.checked) (X:=λw _=>laidMetH Tryz.prog laid7 w) (λ_ _ _ hh h=>h.of_heap hh) own started (by kernel_rfl) Tryz.func4
  (ChangeSpec.witness_shaped (enc:=enc) (C:=Tryz.checked) (os:=os) (X:=λw _=>laidMetH Tryz.prog laid7 w) false (World.laidAll Tryz.prog os laid7) #[.slice none 0 0] 8 (World.laidAll_os _ _ _) (laid_shape7 os) (by kernel_rfl) (by kernel_rfl) (by kernel_rfl) (laid_met7 os _)) ?_
 intro W base args ds gs before hval0 hW _ hsz0 hL _;have hval:∀(j:Nat) t v,Tryz.f4.params[j]? =some t->args[j]? =some v->Value.okWide Tryz.prog W .any base t v:=hval0;have hW':=hW;obtain⟨p,q,hA0,hV,rfl,-,-⟩:=hW;have hA:DataW.TrodAll enc Tryz.prog W 0 (λ_=>true) true Tryz.f4.params.toList args.toList ds p:=hA0;have hsz:(DataW.weightsEach Tryz.prog (Tryz.f4.params.toList++Rows.partsOrderSpec.plain.varTypes Tryz.prog) (ds++gs)).all (· ≤reachBytes)=true:=hsz0;clear hA0 hsz0 hval0;obtain⟨rfl,rfl⟩:=trodVars_none hV;simp only[List.append_nil]at hW';have hAA:=hA;rw[Tryz.params4]at hA hval hsz;obtain⟨v0,vs0,d0,ds0,p0,q0,hargs,rfl,rfl,h0,r0⟩:=trodAll_cons hA;obtain⟨rfl,rfl,rfl⟩:=trodAll_nil r0;obtain rfl:args=#[v0]:=by simpa using congrArg List.toArray hargs
 obtain⟨xs0,a0⟩:=arg_prods (hval 0 28 _ rfl rfl) h0 (rd_arg hsz (j:=0) rfl rfl);refine(partsOrder_any (Here W) _ xs0 W a0 (λ_ h=>h) (tab_of_laid7 hL)).mono λe W' ⟨he,hb⟩=> ?_
 subst he;exact⟨_,rfl,law_post hW' hAA rfl rfl (by kernel_rfl) (by kernel_rfl) hb⟩
theorem partsorder_place:(Rows.partsOrderRow.inPlace==Tryz.prog.inPlace 4)=true:=by kernel_rfl
theorem partsorder_follow:(Rows.partsOrderRow.unfollowed==Tryz.prog.unfollowed 4)=true:=by kernel_rfl
theorem partsorder_recurs:(Rows.partsOrderRow.recurses==Tryz.prog.recurses 4)=true:=by kernel_rfl
theorem partsorder_named:(Rows.partsOrderRow.named==Tryz.prog.varsNamed 4)=true:=by kernel_rfl
theorem partsorder_facts:joinedFacts Tryz.prog 4 Tryz.f4 Rows.partsOrderSpec Rows.partsOrderRow=true:=
 joined_parts (by kernel_rfl) laidOut p_rowed (by kernel_rfl) (by kernel_rfl) rfl p_stops rfl p_knobs partsorder_place partsorder_follow partsorder_recurs partsorder_named (by kernel_rfl) (by kernel_rfl) (by kernel_rfl) (by kernel_rfl) (by kernel_rfl) rfl (by kernel_rfl) (by kernel_rfl) (by kernel_rfl)
  p_keys rfl p_heard p_enter p_lifts p_make rfl (by kernel_rfl) (by kernel_rfl) (by kernel_rfl)
theorem partsorder_holds:Rows.PartsOrderSaid:=
 OpenClaim.holds_of_wide 4 Tryz.f4 rfl rfl rfl rfl rfl rfl rfl ⟨rfl,rfl,rfl,rfl,rfl⟩ rfl rfl rfl rfl rfl (by kernel_rfl) Tryz.func4 partsorder_facts
  (of_decide_eq_true (by kernel_rfl)) (by unfold Func.isWrapper;rw[if_neg (of_decide_eq_false (by kernel_rfl))];exact⟨rfl,rfl⟩)
  (λos started H enc _=>partsorder_lifted os started H enc)
theorem partsorder_card:Rows.PartsOrderCardSaid:=
 Claim7.holds_tied_plain_at .later [] [.data,.data,.data,.data,.sentinel,.sentinel,.pinned] true (true,"6153792142eb100ff59508268ab888eb745437a65818656218587bab2593252c") true
  partsorder_holds (λ_ h=>by cases h) (by kernel_rfl) (λ_ h=>by cases h) partsOrder_row_tie rfl ⟨rfl,rfl⟩ (by kernel_rfl) rfl
  (λf fn hf hfn=>by
   obtain rfl:f=4:=Option.some.inj ((show Tryz.prog.funcNamed "customhouse/customhouselaw28.PartsOrder" =some 4 by kernel_rfl).symm.trans hf) |>.symm;obtain rfl:fn=Tryz.f4:=(Option.some.inj (Tryz.func4.symm.trans hfn)).symm
   exact⟨by kernel_rfl,λj t ht=>by
    rw[Tryz.params4]at ht;(have hm:t∈[28]:=by simpa using Array.mem_of_getElem? ht);have hall:([28].all λu=> !Tryz.prog.wantsStandIn u)=true:=by kernel_rfl
    exact(show Tryz.prog.wantsStandIn t=false by simpa using List.all_eq_true.1 hall t hm)⟩)
  (by kernel_rfl)
end
end Go.Proofs.YtaedcjcdpckkaaaGreatDoor
