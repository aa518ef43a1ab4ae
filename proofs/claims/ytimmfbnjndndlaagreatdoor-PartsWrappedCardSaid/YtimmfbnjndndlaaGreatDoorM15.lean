/- Texts NA NB NC. -/
import Derived.Test.YtimmfbnjndndlaaGreatDoorProg
import Derived.Test.YtimmfbnjndndlaaGreatDoorM6
import Derived.Test.YtimmfbnjndndlaaGreatDoorM4
import Derived.WalkSpells
import Derived.WalkLawsBesides
import Derived.Deep.CutRange
set_option linter.all false
namespace Go.Proofs.YtimmfbnjndndlaaGreatDoor
open Go.RowKit
set_option maxHeartbeats 8000000
set_option maxRecDepth 100000
def lenOfV:Value->Nat
 | .slice _ n _=>n
 | _=>0
theorem trim_any(A:Option Addr)(cap:Nat)(l:List Nat)(Z:Zone)(w:World)(h:Lims Z w (.slice A l.length cap) l):
  Calls Tryz.prog 125 #[.slice A l.length cap] w λe w'=>e= .returned (.slice A (trimL l l.length) cap)∧w=w':=by
 have HL:=hid h;obtain⟨A',cap',e0,hlen,hlc,hcp⟩:=h.form;injection e0 with e1 e2 e3;subst e1 e3;clear h e2;go_enter Tryz.func125,Tryz.ntmps125
 go_wp2;go_loopw[0] (λnv wr=>∃k:Nat,k≤l.length∧nv= .slice A k cap∧Hid (trimL l k=trimL l l.length)∧wr=w) (λnv _=>lenOfV nv);case atStart=>exact⟨_,Nat.le_refl _,rfl,hid rfl,rfl⟩
 case round=>
  obtain⟨k,hk,rfl,ht,rfl⟩:=hrel;by_cases h0:k=0
  ·subst h0;go_wp2;go_ret;exact⟨by rw[<-ht.out];rfl,rfl⟩
  ·obtain⟨j,rfl⟩:∃j,k=j+1:=⟨k-1,by omega⟩;obtain⟨b,off,rfl,hz,hb,hc⟩:=HL.out.at_ (i:=j) (by omega);have hj:l[j]? =some l[j]:=List.getElem?_eq_getElem (by omega);(have hwp:IntKind.i64.wrap ((j:Nat):Int)=((j:Nat):Int):=by rw[IntKind.wrap_i64];omega);have e1:decide ((0:Int)<((j:Nat):Int)+1)=true:=decide_eq_true (by omega);(have hj0:(0:Int)≤((j:Nat):Int):=by omega);(have hj1:((j:Nat):Int)<((j:Nat):Int)+1:=by omega);(have hjc:((j:Nat):Int)≤(cap:Int):=by omega);by_cases hx:l[j]=0
   ·have HT:=hid (show trimL l j=trimL l l.length from by
     rw[<-ht.out];show _=if l[j]? =some 0 then _ else _
     rw[hj,hx,if_pos rfl])
    rw[hx]at hc;clear ht hj hx h0;go_wp2;go_roundw;(case rel=>exact⟨j,by omega,by simp,HT,by first|rfl|trivial⟩);case measure=>simp[lenOfV]
   ·have HT:=hid (show j+1=trimL l l.length from by
     rw[<-ht.out];show _=if l[j]? =some 0 then _ else _
     rw[hj,if_neg (by intro e;injection e with e;exact hx e)])
    (have e2:((l[j]:Int)==(0:Int))=false:=by simp;omega);generalize l[j]=x at*;clear ht hj h0;go_wp2;go_ret;refine⟨?_,rfl⟩;show Ending.returned (.slice _ (j+1) cap)=_;rw[HT.out]
theorem Tryz.eU64:ElemIs Tryz.prog 184 1 8:=elemIs_of (z:= .int .u64 0) (by kernel_rfl) rfl (by decide)
theorem Lims.part{Z:Zone}{w:World}{v:Value}{l:List Nat}(h:Lims Z w v l):∃A cap,v= .slice A l.length cap∧l.length≤17592186044416:=by
 obtain⟨A,cap,e,h1,_⟩:=h.form;exact⟨A,cap,e,h1⟩
theorem nadd_any(Z Z':Zone)(v v':Value)(n m:Nat)(w:World)(hn:NumS Z w v n)(hm:NumS Z' w v' m)(h1:(digs n).length ≤1000000)(h2:(digs m).length ≤1000000):
  Calls Tryz.prog 104 #[v,v'] w λe w'=>∃u,e= .returned u∧NumS (λb=>w.heap.size≤b) w' u (n+m)∧Below w.heap.size w w':=by
 obtain⟨A,cap,rfl,hl1⟩:=Lims.part hn;obtain⟨A',cap',rfl,hl2⟩:=Lims.part hm;have HN:=hid hn;have HM:=hid hm;clear hn hm;generalize hla:(digs n).length =la at*;generalize hlb:(digs m).length =lb at*;have HLA:=hid hla;have HLB:=hid hlb;clear hla hlb;go_enter Tryz.func104,Tryz.ntmps104
 go_upto_if 13 with fail
 go_cut[0,1] from 9 (λav bv wx=>∃(Z1 Z2:Zone)(A1 A2:Option Addr)(c1 c2 l1 l2 p q:Nat),av= .slice A1 l1 c1∧bv= .slice A2 l2 c2∧Hid (NumS Z1 w (.slice A1 l1 c1) p∧NumS Z2 w (.slice A2 l2 c2) q∧p+q=n+m∧l1=(digs p).length ∧l2=(digs q).length)∧l2≤l1∧l1≤1000000∧wx=w)
 case first=>
  by_cases hlt:la<lb
  ·have e1:decide (la<lb)=true:=decide_eq_true hlt;go_wp2;go_meet;exact⟨Z',Z,_,_,_,_,_,_,_,_,rfl,rfl,hid ⟨HM.out,HN.out,Nat.add_comm _ _,HLB.out.symm,HLA.out.symm⟩,by omega,h2,rfl⟩
  ·have e1:decide (la<lb)=false:=decide_eq_false hlt;go_wp2;go_meet;exact⟨Z,Z',_,_,_,_,_,_,_,_,rfl,rfl,hid ⟨HN.out,HM.out,rfl,HLA.out.symm,HLB.out.symm⟩,by omega,h1,rfl⟩
 case rest=>
  obtain⟨Z1,Z2,A1,A2,c1,c2,l1,l2,p,q,rfl,rfl,HP,hle,hl,rfl⟩:=hcut;rename World=>w
  clear HN HM HLA HLB h1 h2 hl1 hl2;have h63:l1+1≤maxLen:=by unfold maxLen;omega
  obtain⟨i0,hi0,e0⟩:=Option.map_eq_some_iff.1 (show(Tryz.prog.info? 184).map (λi=>(i.zero,i.size,i.bytes))=some (some (.int .u64 0),1,8) from by kernel_rfl);simp only[Prod.mk.injEq]at e0;obtain⟨hz0,hsz0,hby0⟩:=e0;have hms:=λW=>run_makeSlice (w:=W) 157 184 i0 (.int .u64 0) Tryz.underlying157 hi0 hz0 .i64 .i64 0 ((l1:Int)+1) (Int.le_refl _) (by omega) (by rw[hsz0];omega) (by rw[hby0];omega) (by omega)
  have hown0:∀cs:Array Value,cs.size=(l1+1)*1->(w.alloc (.cells cs 184)).ownsRow w.heap.size 184 1 (.slice (some ⟨w.heap.size,0,none⟩) 0 (l1+1)) 0 []:=λcs h=>World.ownsRow_made w cs (l1+1) (Nat.le_refl _) h63 h
  simp only[hsz0,Nat.mul_one]at hms;have hcs:(madeCells #[Value.int .u64 0] ((l1:Int)+1).toNat).size =l1+1:=by rw[size_madeCells];rfl
  rw[show(Value.int .u64 0).cells =#[.int .u64 0] from rfl]at hms;have e1:((l1:Int)+1).toNat =l1+1:=by omega
  rw[e1]at hms hcs;generalize madeCells #[Value.int .u64 0] (l1+1)=cz at*;have hown1:=hown0 cz (by omega);clear hown0 hi0 hz0 hsz0 hby0 hcs;have HP0:=hid (And.intro hown1 (below1 w (.cells cz 184)));clear hown1;go_wp2;clear hms;go_loopw[5,6,22] (λov cv ix wr=>∃(k c:Nat)(o:List Nat),k≤l1∧ix= .int .i64 k∧cv= .int .u64 c∧o.length=k∧wr.ownsRow w.heap.size 184 1 ov k (o.map lim)∧c≤1∧Hid (Limbs o∧lv o+1000000000^k*c=lv ((digs p).take k)+lv ((digs q).take k))∧Below w.heap.size w wr) (λ_ _ ix _=>l1-(intOf ix).toNat);case atStart=>exact⟨0,0,[],Nat.zero_le _,rfl,rfl,rfl,by simpa using HP0.out.1,by omega,hid ⟨Limbs.nil,by simp[lv]⟩,HP0.out.2⟩
  case round=>
   obtain⟨k,c,o,hk,rfl,rfl,hol,hown,hc1,hv,hbel⟩:=hrel;clear HP0;have hws:=hbel.size;by_cases hlt:k<l1
   ·(have hlp:k<(digs p).length :=by have:=HP.out.2.2.2.1;omega);obtain⟨b,off,rfl,hz,hb,hc⟩:=HP.out.1.at_ (i:=k) hlp;have hx:=(digs_canon p).1.limbs.get (i:=k) hlp;(have hs:=λM y s=> @add_step o k c (digs p)[k] y s (lv ((digs p).take k)) M hol);have ht:=lv_take_succ (l:=digs p) (i:=k) hlp;generalize (digs p)[k]=x at*;have c0:=brd hbel hc hb;(have hk1:(k:Int)<(l1:Int):=by omega);(have hk0:(0:Int)≤(k:Int):=by omega);(have hw1:IntKind.u64.wrap ((x:Int)+(c:Int))=(x:Int)+(c:Int):=by rw[IntKind.wrap_u64];omega);have HOW:=hid hown;have HB:=hid (And.intro hbel hws);by_cases h2:k<l2
    ·(have hlq:k<(digs q).length :=by have:=HP.out.2.2.2.2;omega);obtain⟨b',off',rfl,hz',hb',hc'⟩:=HP.out.2.1.at_ (i:=k) hlq;have hy:=(digs_canon q).1.limbs.get (i:=k) hlq;have ht':=lv_take_succ (l:=digs q) (i:=k) hlq;generalize (digs q)[k]=y at*;have c0':=brd hbel hc' hb';(have hk2:(k:Int)<(l2:Int):=by omega);have e2:decide (k<l2)=true:=decide_eq_true h2;(have hw2:IntKind.u64.wrap ((x:Int)+(c:Int)+(y:Int))=(x:Int)+(c:Int)+(y:Int):=by rw[IntKind.wrap_u64];omega);(have hmd:((x:Int)+(c:Int)+(y:Int))%1000000000=(((x+c+y)%1000000000:Nat):Int):=by omega);have hdv:((x:Int)+(c:Int)+(y:Int)) / 1000000000=(((x+c+y) / 1000000000:Nat):Int):=by omega
     have HV:=hid (show(x+c+y) / 1000000000≤1∧(List.map lim (o++[(x+c+y)%1000000000])=List.map lim o++[.int .u64 (((x:Int)+(c:Int)+(y:Int))%1000000000)])∧Hid (Limbs (o++[(x+c+y)%1000000000])∧lv (o++[(x+c+y)%1000000000])+1000000000^(k+1)*((x+c+y) / 1000000000)=lv ((digs p).take (k+1))+lv ((digs q).take (k+1))) from
      ⟨by omega,by rw[List.map_append,hmd];rfl,hid ⟨hv.out.1.append (Limbs.nil.cons (by omega)),by rw[hs _ y (x+c+y) hv.out.2 rfl,ht,ht']⟩⟩)
     have HDV:=hid hdv;clear hws hown hc hc' hv hbel hs ht ht' hlp hlq hmd hdv;go_wp2_with(at_builtin;refine wpList_append1 rfl (.tmp 40) (.tmp 43) _ rfl Tryz.underlying157 Tryz.eU64 rfl (HOW.out.alloc _) rfl (news:=[.int .u64 (((x:Int)+(c:Int)+(y:Int))%1000000000)]) rfl (one_cell (by simp)) (by simp[Value.oneCell']) (by unfold maxLen;omega) (by omega) (by have:=HB.out.2;simp;omega) ?_;intro v5 w5 hown5 hg5 hat5);go_roundw;(case rel=>exact⟨k+1,_,_,by omega,by go_num,congrArg _ HDV.out,by simp[hol],by rw[HV.out.2.1];exact hown5,HV.out.1,HV.out.2.2,below_own (HB.out.1.alloc HB.out.2 _) (HOW.out.alloc _) hg5 (by have:=HB.out.2;simp;omega) (Nat.le_refl _)⟩);case measure=>simp[intOf];omega
    ·(have hlq:(digs q).length ≤k:=by have:=HP.out.2.2.2.2;omega);(have ht':lv ((digs q).take (k+1))=lv ((digs q).take k)+1000000000^k*0:=by rw[List.take_of_length_le hlq,List.take_of_length_le (by omega)];simp);have e2:decide (k<l2)=false:=decide_eq_false h2;(have hmd:((x:Int)+(c:Int))%1000000000=(((x+c)%1000000000:Nat):Int):=by omega);have hdv:((x:Int)+(c:Int)) / 1000000000=(((x+c) / 1000000000:Nat):Int):=by omega
     have HV:=hid (show(x+c) / 1000000000≤1∧(List.map lim (o++[(x+c)%1000000000])=List.map lim o++[.int .u64 (((x:Int)+(c:Int))%1000000000)])∧Hid (Limbs (o++[(x+c)%1000000000])∧lv (o++[(x+c)%1000000000])+1000000000^(k+1)*((x+c) / 1000000000)=lv ((digs p).take (k+1))+lv ((digs q).take (k+1))) from
      ⟨by omega,by rw[List.map_append,hmd];rfl,hid ⟨hv.out.1.append (Limbs.nil.cons (by omega)),by rw[hs _ 0 (x+c) hv.out.2 rfl,ht,ht']⟩⟩)
     have HDV:=hid hdv;clear hws hown hc hv hbel hs ht ht' hlp hlq hmd hdv;go_wp2_with(at_builtin;refine wpList_append1 rfl (.tmp 40) (.tmp 43) _ rfl Tryz.underlying157 Tryz.eU64 rfl (HOW.out.alloc _) rfl (news:=[.int .u64 (((x:Int)+(c:Int))%1000000000)]) rfl (one_cell (by simp)) (by simp[Value.oneCell']) (by unfold maxLen;omega) (by omega) (by have:=HB.out.2;simp;omega) ?_;intro v5 w5 hown5 hg5 hat5);go_roundw;(case rel=>exact⟨k+1,_,_,by omega,by go_num,congrArg _ HDV.out,by simp[hol],by rw[HV.out.2.1];exact hown5,HV.out.1,HV.out.2.2,below_own (HB.out.1.alloc HB.out.2 _) (HOW.out.alloc _) hg5 (by have:=HB.out.2;simp;omega) (Nat.le_refl _)⟩);case measure=>simp[intOf];omega
   ·(obtain rfl:k=l1:=by omega);have HOW:=hid hown;have HB:=hid (And.intro hbel hws);obtain⟨lo,hlo⟩:∃lo,o++[c]=lo:=⟨_,rfl⟩
    have HV:=hid (show List.map lim lo=List.map lim o++[.int .u64 (c:Int)]∧Limbs lo∧lv lo=n+m∧lo.length=k+1 from by
     rw[<-hlo];exact
     ⟨by rw[List.map_append];rfl,hv.out.1.append (Limbs.nil.cons (by omega)),by
      have h1:=hv.out.2;rw[List.take_of_length_le (by have:=HP.out.2.2.2.1;omega),List.take_of_length_le (by have:=HP.out.2.2.2.2;omega),(digs_canon p).2,(digs_canon q).2,HP.out.2.2.1]at h1
      rw[lv_snoc,hol,h1],by simp[hol]⟩)
    clear hws hown hv hbel hlo
    go_wp2_with(first
     |(at_builtin;refine wpList_append1 rfl (.tmp 48) (.tmp 50) _ rfl Tryz.underlying157 Tryz.eU64 rfl (HOW.out.alloc _) rfl (news:=[.int .u64 (c:Int)]) rfl (one_cell (by simp)) (by simp[Value.oneCell']) (by unfold maxLen;omega) (by omega) (by have:=HB.out.2;simp;omega) ?_;intro v5 w5 hown5 hg5 hat5;have hbb:=below_own (HB.out.1.alloc HB.out.2 _) (HOW.out.alloc _) hg5 (by have:=HB.out.2;simp;omega) (Nat.le_refl _);rw[<-HV.out.1]at hown5;have HL5:=hid (Lims.of_own hown5 HV.out.2.1 (by rw[HV.out.2.2.2];omega));obtain⟨A5,cap5,rfl,hl5⟩:=Lims.part HL5.out;clear hown5 hg5 hat5)
     |(go_at_call 125;refine(trim_any A5 cap5 _ _ _ HL5.out).mono ?_;rintro e w6 ⟨rfl,rfl⟩))
    go_ret;exact⟨_,rfl,NumS.of (HL5.out.take (trimL_le _ _)) (trimL_digs HV.out.2.1 HV.out.2.2.1),hbb⟩
theorem set_lims(l:List Nat)(k d:Nat):(l.map lim).toArray.setIfInBounds k (lim d)=((l.set k d).map lim).toArray :=by simp[List.map_set]
theorem lims_blk{w:World}{g cap:Nat}{t:TypeId}{l:List Nat}{Z:Zone}(h:Blk w g t (l.map lim).toArray)(hz:Z g)(hl:Limbs l)(h1:l.length≤cap)(h2:cap≤9223372036854775807)(h3:l.length*8≤140737488355328):
  Lims Z w (.slice (some ⟨g,0,none⟩) l.length cap) l:=
 ⟨⟨some ⟨g,0,none⟩,cap,rfl,h1,h2,h3,λ_=>⟨g,0,rfl,hz,λj u hu=>by rw[Nat.zero_add,h.cell j,List.getElem?_toArray];exact hu⟩⟩,hl⟩
theorem take_set(l:List Nat){k d:Nat}(hk:k<l.length):(l.set k d).take (k+1)=l.take k++[d]:=by
 rw[List.take_succ_eq_append_getElem (by simpa using hk),List.take_set_of_le (Nat.le_refl _),List.getElem_set_self]
theorem made_lims(k:Nat):madeCells #[Value.int .u64 0] k=((List.replicate k 0).map lim).toArray :=by
 apply Array.ext';rw[toList_madeCells_one,List.map_replicate];rfl
theorem lv_zeros:∀k:Nat,lv (List.replicate k 0)=0
 |0=>rfl
 |k+1=>by simp[List.replicate_succ,lv,lv_zeros k]
theorem limbs_zeros(k:Nat):Limbs (List.replicate k 0):=λx hx=>by rw[List.eq_of_mem_replicate hx];decide
theorem run_makeU(c:Nat)(hc:c≤100000000)(W:World):
  (Instr.makeSlice 157 (.int .i64 (c:Int)) (.int .i64 (c:Int))).run Tryz.prog W= .ok (.slice (some ⟨W.heap.size,0,none⟩) c c) (W.alloc (.cells ((List.replicate c 0).map lim).toArray 184)):=by
 obtain⟨i0,hi0,e0⟩:=Option.map_eq_some_iff.1 (show(Tryz.prog.info? 184).map (λi=>(i.zero,i.size,i.bytes))=some (some (.int .u64 0),1,8) from by kernel_rfl);simp only[Prod.mk.injEq]at e0;obtain⟨hz0,hsz0,hby0⟩:=e0;have hms:=run_make (w:=W) 157 184 i0 (.int .u64 0) Tryz.underlying157 hi0 hz0 .i64 .i64 (c:Int) (c:Int) (by omega) (Int.le_refl _) (by rw[hby0];omega) (by omega);simp only[Int.toNat_natCast,hsz0,Nat.mul_one]at hms;rw[hms,show(Value.int .u64 0).cells =#[.int .u64 0] from rfl,made_lims]
theorem sub_any(Z Z':Zone)(v v':Value)(n m:Nat)(w:World)(hn:NumS Z w v n)(hm:NumS Z' w v' m)(h1:(digs n).length ≤1000000)(h2:(digs m).length ≤1000000)(hle:m≤n):
  Calls Tryz.prog 131 #[v,v'] w λe w'=>∃u,e= .returned u∧NumS (λb=>w.heap.size≤b) w' u (n-m)∧Below w.heap.size w w':=by
 obtain⟨A,cap,rfl,hl1⟩:=Lims.part hn;obtain⟨A',cap',rfl,hl2⟩:=Lims.part hm;have HN:=hid hn;have HM:=hid hm;clear hn hm;generalize hla:(digs n).length =la at*;generalize hlb:(digs m).length =lb at*;have HL:=hid (And.intro hla hlb);have hms:=run_makeU la (by omega);obtain⟨cz,hcz⟩:∃cz,((List.replicate la 0).map lim).toArray =cz:=⟨_,rfl⟩;rw[hcz]at hms;have HP0:=hid (And.intro (Blk.new w 184 cz) (And.intro (below1 w (.cells cz 184)) hcz));clear hcz;clear hla hlb;go_enter Tryz.func131,Tryz.ntmps131
 go_wp2;clear hms;go_loopw[6,15] (λcv ix wr=>∃(k c:Nat)(o:List Nat),k≤la∧ix= .int .i64 k∧cv= .int .u64 c∧o.length=la∧Blk wr w.heap.size 184 (o.map lim).toArray ∧c≤1∧Hid (Limbs o∧lv (o.take k)+lv ((digs m).take k)=lv ((digs n).take k)+1000000000^k*c)∧Below w.heap.size w wr) (λ_ ix _=>la-(intOf ix).toNat);case atStart=>exact⟨0,0,_,Nat.zero_le _,rfl,rfl,List.length_replicate ..,by rw[HP0.out.2.2];exact HP0.out.1,by omega,hid ⟨limbs_zeros _,by simp[lv]⟩,HP0.out.2.1⟩
 case round=>
  obtain⟨k,c,o,hk,rfl,rfl,hol,hbo,hc1,hv,hbel⟩:=hrel;clear HP0;have hol':(o.map lim).toArray.size =la:=by simp[hol]
  by_cases hlt:k<la
  ·(have hlp:k<(digs n).length :=by have:=HL.out.1;omega);obtain⟨b,off,rfl,hz,hb,hc⟩:=HN.out.at_ (i:=k) hlp;have hx:=(digs_canon n).1.limbs.get (i:=k) hlp;have ht:=lv_take_succ (l:=digs n) (i:=k) hlp;(have hs:=λM m d b'=> @sub_step (o.take k) k c b' (digs n)[k] m d (lv ((digs n).take k)) M (by rw[List.length_take];omega));generalize (digs n)[k]=x at*;have c0:=brd hbel hc hb;(have hk1:(k:Int)<(la:Int):=by omega);(have hk0:(0:Int)≤(k:Int):=by omega);(have o0:wr.cell? ⟨w.heap.size,k,none⟩=some (.int .u64 ((o[k]'(by omega):Nat):Int)):=by rw[hbo.cell k,List.getElem?_toArray,List.getElem?_map,List.getElem?_eq_getElem (by omega)];rfl);have of:=hbo.frozen k;have ol:=hbo.lt;generalize o[k]'(by omega)=old at*
   have HS:=hid (λ(d y c':Nat)(hd:d<1000000000)(hy:lv ((digs m).take (k+1))=lv ((digs m).take k)+1000000000^k*y)(he:d+y+c=x+1000000000*c')=>
    (show(o.set k d).length =la∧Blk (wr.setCell ⟨w.heap.size,k,none⟩ (.int .u64 (d:Int))) w.heap.size 184 ((o.set k d).map lim).toArray ∧Hid (Limbs (o.set k d)∧lv ((o.set k d).take (k+1))+lv ((digs m).take (k+1))=lv ((digs n).take (k+1))+1000000000^(k+1)*c')∧Below w.heap.size w (wr.setCell ⟨w.heap.size,k,none⟩ (.int .u64 (d:Int))) from
     ⟨by simp[hol],by rw[<-set_lims];exact hbo.set_ k _,hid ⟨hv.out.1.set k hd,by rw[take_set _ (by omega),hy,ht];exact hs _ y d c' hv.out.2 he⟩,hbel.setCell (p:=⟨w.heap.size,k,none⟩) (Nat.le_refl _) _⟩))
   by_cases h2:k<lb
   ·(have hlq:k<(digs m).length :=by have:=HL.out.2;omega);obtain⟨b',off',rfl,hz',hb',hc'⟩:=HM.out.at_ (i:=k) hlq;have hy:=(digs_canon m).1.limbs.get (i:=k) hlq;have HT:=hid (lv_take_succ (l:=digs m) (i:=k) hlq);generalize (digs m)[k]=y at*;have c0':=brd hbel hc' hb';(have hk2:(k:Int)<(lb:Int):=by omega);have e2:decide (k<lb)=true:=decide_eq_true h2;(have hw2:IntKind.u64.wrap ((c:Int)+(y:Int))=(c:Int)+(y:Int):=by rw[IntKind.wrap_u64];omega);clear hc hc' hv hbel hs ht hlp hlq hbo hol';by_cases h3:x<c+y
    ·have e3:decide ((x:Int)<(c:Int)+(y:Int))=true:=decide_eq_true (by omega);(have hw3:IntKind.u64.wrap ((x:Int)+1000000000)=(x:Int)+1000000000:=by rw[IntKind.wrap_u64];omega);(have hw4:IntKind.u64.wrap ((x:Int)+1000000000-((c:Int)+(y:Int)))=((x+1000000000-(c+y):Nat):Int):=by rw[IntKind.wrap_u64];omega);have HR:=hid (HS.out (x+1000000000-(c+y)) y 1 (by omega) HT.out (by omega));generalize x+1000000000-(c+y)=d at*;clear HS;go_wp2;go_roundw;(case rel=>exact⟨k+1,1,_,by omega,by go_num,rfl,HR.out.1,HR.out.2.1,by omega,HR.out.2.2.1,HR.out.2.2.2⟩);case measure=>simp[intOf];omega
    ·have e3:decide ((x:Int)<(c:Int)+(y:Int))=false:=decide_eq_false (by omega);(have hw4:IntKind.u64.wrap ((x:Int)-((c:Int)+(y:Int)))=((x-(c+y):Nat):Int):=by rw[IntKind.wrap_u64];omega);have HR:=hid (HS.out (x-(c+y)) y 0 (by omega) HT.out (by omega));generalize x-(c+y)=d at*;clear HS;go_wp2;go_roundw;(case rel=>exact⟨k+1,0,_,by omega,by go_num,rfl,HR.out.1,HR.out.2.1,by omega,HR.out.2.2.1,HR.out.2.2.2⟩);case measure=>simp[intOf];omega
   ·(have hlq:(digs m).length ≤k:=by have:=HL.out.2;omega);have HT:=hid (show lv ((digs m).take (k+1))=lv ((digs m).take k)+1000000000^k*0 from by rw[List.take_of_length_le hlq,List.take_of_length_le (by omega)];simp);have e2:decide (k<lb)=false:=decide_eq_false h2;clear hc hv hbel hs ht hlp hlq hbo hol';by_cases h3:x<c
    ·have e3:decide (x<c)=true:=decide_eq_true h3;(have hw3:IntKind.u64.wrap ((x:Int)+1000000000)=(x:Int)+1000000000:=by rw[IntKind.wrap_u64];omega);(have hw4:IntKind.u64.wrap ((x:Int)+1000000000-(c:Int))=((x+1000000000-c:Nat):Int):=by rw[IntKind.wrap_u64];omega);have HR:=hid (HS.out (x+1000000000-c) 0 1 (by omega) HT.out (by omega));generalize x+1000000000-c=d at*;clear HS;go_wp2;go_roundw;(case rel=>exact⟨k+1,1,_,by omega,by go_num,rfl,HR.out.1,HR.out.2.1,by omega,HR.out.2.2.1,HR.out.2.2.2⟩);case measure=>simp[intOf];omega
    ·have e3:decide (x<c)=false:=decide_eq_false h3;(have hw4:IntKind.u64.wrap ((x:Int)-(c:Int))=((x-c:Nat):Int):=by rw[IntKind.wrap_u64];omega);have HR:=hid (HS.out (x-c) 0 0 (by omega) HT.out (by omega));generalize x-c=d at*;clear HS;go_wp2;go_roundw;(case rel=>exact⟨k+1,0,_,by omega,by go_num,rfl,HR.out.1,HR.out.2.1,by omega,HR.out.2.2.1,HR.out.2.2.2⟩);case measure=>simp[intOf];omega
  ·obtain rfl:k=la:=by omega
   have HLS:=hid (show Lims (λb=>w.heap.size≤b) wr (.slice (some ⟨w.heap.size,0,none⟩) k k) o∧lv o=n-m from by
    have hv2:=hv.out.2;rw[List.take_of_length_le (l:=o) (by omega),List.take_of_length_le (l:=digs n) (by have:=HL.out.1;omega),(digs_canon n).2]at hv2
    have hq:lv ((digs m).take k)=m:=by
     have hmk:(digs m).length ≤k:=by
      rcases Nat.lt_or_ge k (digs m).length with h|h
      ·have:=lv_longer (digs_canon n).1.limbs (digs_canon m).1 (by have:=HL.out.1;omega);rw[(digs_canon n).2,(digs_canon m).2]at this;omega
      ·exact h
     rw[List.take_of_length_le hmk,(digs_canon m).2]
    rw[hq]at hv2;have hlt':=lv_lt hv.out.1;rw[hol]at hlt';refine⟨?_,?_⟩
    ·have:=lims_blk (Z:=λb=>w.heap.size≤b) (cap:=k) hbo (Nat.le_refl _) hv.out.1 (by omega) (by omega) (by omega);rwa[hol]at this
    ·rcases Nat.eq_zero_or_pos c with rfl|hp
     ·simp at hv2;omega
     ·(obtain rfl:c=1:=by omega);simp at hv2
      omega)
   have HTR:=hid (show Calls Tryz.prog 125 #[.slice (some ⟨w.heap.size,0,none⟩) k k] wr (λe w'=>e= .returned (.slice (some ⟨w.heap.size,0,none⟩) (trimL o k) k)∧wr=w') from by
    have:=trim_any (some ⟨w.heap.size,0,none⟩) k o _ wr (by rw[hol];exact HLS.out.1)
    rwa[hol]at this)
   have HV:=hid (And.intro hol (And.intro hv.out.1 hbel));clear hv hbel hbo hol';go_wp2_with(go_at_call 125;refine HTR.out.mono ?_;rintro e w6 ⟨rfl,rfl⟩);go_ret;refine⟨_,rfl,NumS.of (HLS.out.1.take (by rw[HV.out.1];exact trimL_le _ _)) ?_,HV.out.2.2⟩;have:=trimL_digs HV.out.2.1 HLS.out.2;rwa[HV.out.1]at this
theorem mul_step{l:List Nat}{i j ai bj c x P Q:Nat}(hp:i+j<l.length)(h:lv l+1000000000^(i+j)*c=P+1000000000^i*ai*Q)(hx:x=l[i+j]+ai*bj+c):
  lv (l.set (i+j) (x%1000000000))+1000000000^(i+j+1)*(x / 1000000000)=P+1000000000^i*ai*(Q+1000000000^j*bj):=by
 have e1:=lv_set (x:=x%1000000000) hp;rw[Nat.pow_succ];rw[Nat.pow_add]at*;generalize l[i+j]=y at*;generalize 1000000000^i=u at*;generalize 1000000000^j=v at*;have e2:u*v*(x%1000000000)+u*v*1000000000*(x / 1000000000)=u*v*x:=by rw[Nat.mul_assoc (u*v),<-Nat.mul_add,Nat.mod_add_div]
 have e3:u*v*x=u*v*y+u*v*(ai*bj)+u*v*c:=by rw[hx,Nat.mul_add,Nat.mul_add]
 have e4:u*ai*(Q+v*bj)=u*ai*Q+u*v*(ai*bj):=by rw[Nat.mul_add,Nat.mul_mul_mul_comm]
 omega
theorem mul_end{l:List Nat}{i k c:Nat}(hp:i<l.length)(h0:l[i]=0)(h:lv l+1000000000^i*c=k):lv (l.set i c)=k:=by
 have e1:=lv_set (x:=c) hp;rw[h0]at e1;omega
structure MulI (l:List Nat) (len z:Nat) (V p c:Nat):Prop where
 len:l.length=len
 limbs:Limbs l
 zero:∀j(hj:j<l.length),z≤j->l[j]=0
 val:lv l+1000000000^p*c=V
theorem MulI.step{l:List Nat}{len z i j ai bj c x P Q:Nat}(h:MulI l len z (P+1000000000^i*ai*Q) (i+j) c)(hp:i+j<l.length)(hz:i+j<z)(hx:x=l[i+j]+ai*bj+c):
  MulI (l.set (i+j) (x%1000000000)) len z (P+1000000000^i*ai*(Q+1000000000^j*bj)) (i+(j+1)) (x / 1000000000):=
 ⟨by simp[h.len],h.limbs.set _ (Nat.mod_lt _ (by decide)),λq hq hzq=>by
  rw[List.getElem_set_ne (by omega)]
  exact h.zero q (by simpa using hq) hzq,mul_step hp h.val hx⟩
theorem MulI.done{l:List Nat}{len z V c:Nat}(h:MulI l len z V z c)(hc:c<1000000000)(hz:z<l.length):MulI (l.set z c) len (z+1) V 0 0:=
 ⟨by simp[h.len],h.limbs.set _ hc,λq hq hzq=>by
  rw[List.getElem_set_ne (by omega)];exact h.zero q (by simpa using hq) (by omega),by
  rw[Nat.mul_zero,Nat.add_zero]
  exact mul_end hz (h.zero z hz (Nat.le_refl _)) h.val⟩
theorem mul_any(Z Z':Zone)(v v':Value)(n m:Nat)(w:World)(hn:NumS Z w v n)(hm:NumS Z' w v' m)(h1:(digs n).length ≤1000000)(h2:(digs m).length ≤1000000):
  Calls Tryz.prog 130 #[v,v'] w λe w'=>∃u,e= .returned u∧NumS (λb=>w.heap.size≤b) w' u (n*m)∧Below w.heap.size w w':=by
 obtain⟨A,cap,rfl,hl1⟩:=Lims.part hn;obtain⟨A',cap',rfl,hl2⟩:=Lims.part hm;have HN:=hid hn;have HM:=hid hm;clear hn hm;generalize hla:(digs n).length =la at*;generalize hlb:(digs m).length =lb at*;have HL:=hid (And.intro hla hlb);have hms:=run_makeU (la+lb) (by omega);rw[show(((la+lb:Nat):Int))=(la:Int)+(lb:Int) from by omega]at hms;obtain⟨cz,hcz⟩:∃cz,((List.replicate (la+lb) 0).map lim).toArray =cz:=⟨_,rfl⟩;rw[hcz]at hms;have HP0:=hid (And.intro (Blk.new w 184 cz) (And.intro (below1 w (.cells cz 184)) hcz));clear hcz hla hlb;have hwl:IntKind.i64.wrap ((la:Int)+(lb:Int))=(la:Int)+(lb:Int):=by rw[IntKind.wrap_i64];omega
 go_enter Tryz.func130,Tryz.ntmps130
 go_wp2;clear hms hwl;go_loopw[20] (λix wr=>∃(k:Nat)(o:List Nat),k≤la∧ix= .int .i64 k∧Blk wr w.heap.size 184 (o.map lim).toArray ∧Hid (MulI o (la+lb) (k+lb) (lv ((digs n).take k)*m) 0 0)∧Below w.heap.size w wr) (λix _=>la-(intOf ix).toNat);case atStart=>exact⟨0,_,Nat.zero_le _,rfl,by rw[HP0.out.2.2];exact HP0.out.1,hid ⟨List.length_replicate ..,limbs_zeros _,λj hj _=>by simp,by simp[lv,lv_zeros]⟩,HP0.out.2.1⟩
 case round=>
  obtain⟨k,o,hk,rfl,hbo,hv,hbel⟩:=hrel;clear HP0;by_cases hlt:k<la
  ·(have hlp:k<(digs n).length :=by have:=HL.out.1;omega);obtain⟨b,off,rfl,hz,hb,hc⟩:=HN.out.at_ (i:=k) hlp;have hx:=(digs_canon n).1.limbs.get (i:=k) hlp;have HT:=hid (lv_take_succ (l:=digs n) (i:=k) hlp);generalize (digs n)[k]=x at*;have c0:=brd hbel hc hb;(have hk1:(k:Int)<(la:Int):=by omega);(have hk0:(0:Int)≤(k:Int):=by omega);have HB:=hid (And.intro hbo (And.intro hv hbel));clear hc hlp hbo hv hbel;go_wp2;go_loopw[8,27] (λcv jx wq=>∃(j c:Nat)(o:List Nat),j≤lb∧jx= .int .i64 j∧cv= .int .u64 c∧c<1000000000∧Blk wq w.heap.size 184 (o.map lim).toArray ∧Hid (MulI o (la+lb) (k+lb) (lv ((digs n).take k)*m+1000000000^k*x*lv ((digs m).take j)) (k+j) c)∧Below w.heap.size w wq) (λ_ jx _=>lb-(intOf jx).toNat)
   case atStart=>
    exact⟨0,0,o,Nat.zero_le _,rfl,rfl,by omega,HB.out.1,hid ⟨HB.out.2.1.out.len,HB.out.2.1.out.limbs,HB.out.2.1.out.zero,by have:=HB.out.2.1.out.val;simpa[lv]using this⟩,HB.out.2.2⟩
   case round=>
    obtain⟨j,c,o',hj,rfl,rfl,hcB,hbo,hv,hbel⟩:=hrel;clear HB c0;by_cases hjt:j<lb
    ·(have hlq:j<(digs m).length :=by have:=HL.out.2;omega);obtain⟨b',off',rfl,hz',hb',hc'⟩:=HM.out.at_ (i:=j) hlq;have hy:=(digs_canon m).1.limbs.get (i:=j) hlq;have ht:=lv_take_succ (l:=digs m) (i:=j) hlq;generalize (digs m)[j]=y at*;have c0':=brd hbel hc' hb';(have hkj:k+j<o'.length:=by have:=hv.out.len;omega);(have o0:wr.cell? ⟨w.heap.size,k+j,none⟩=some (.int .u64 ((o'[k+j]:Nat):Int)):=by rw[hbo.cell (k+j),List.getElem?_toArray,List.getElem?_map,List.getElem?_eq_getElem hkj];rfl);have of:=hbo.frozen (k+j);have ol:=hbo.lt;have hold:=hv.out.limbs.get hkj;have hpl:x*y≤999999999*999999999:=Nat.mul_le_mul (by omega) (by omega);obtain⟨p,hp⟩:∃p,p=x*y:=⟨_,rfl⟩;rw[<-hp]at hpl;(have hS:=λs hs=> @MulI.step o' (la+lb) (k+lb) k j x y c s (lv ((digs n).take k)*m) (lv ((digs m).take j)) hv.out hkj (by omega) hs);generalize o'[k+j]=old at*;(have hmd:((old:Int)+(p:Int)+(c:Int))%1000000000=(((old+p+c)%1000000000:Nat):Int):=by omega);have hdv:((old:Int)+(p:Int)+(c:Int)) / 1000000000=(((old+p+c) / 1000000000:Nat):Int):=by omega
     have HR:=hid (show Blk (wr.setCell ⟨w.heap.size,k+j,none⟩ (.int .u64 (((old:Int)+(p:Int)+(c:Int))%1000000000))) w.heap.size 184 ((o'.set (k+j) ((old+p+c)%1000000000)).map lim).toArray ∧Hid (MulI (o'.set (k+j) ((old+p+c)%1000000000)) (la+lb) (k+lb) (lv ((digs n).take k)*m+1000000000^k*x*lv ((digs m).take (j+1))) (k+(j+1)) ((old+p+c) / 1000000000))∧Below w.heap.size w (wr.setCell ⟨w.heap.size,k+j,none⟩ (.int .u64 (((old:Int)+(p:Int)+(c:Int))%1000000000)))∧(old+p+c) / 1000000000<1000000000 from by
      rw[hmd,ht]
      exact⟨by rw[<-set_lims];exact hbo.set_ (k+j) _,hid (hS _ (by rw[hp])),hbel.setCell (p:=⟨w.heap.size,k+j,none⟩) (Nat.le_refl _) _,by omega⟩)
     have HDV:=hid hdv;(have hpp:(x:Int)*(y:Int)=(p:Int):=by rw[hp];exact(Int.natCast_mul x y).symm);(have hwk:IntKind.i64.wrap ((k:Int)+(j:Int))=(k:Int)+(j:Int):=by rw[IntKind.wrap_i64];omega);(have hb1:(k:Int)+(j:Int)<(la:Int)+(lb:Int):=by omega);(have hb0:(0:Int)≤(k:Int)+(j:Int):=by omega);(have htn:((k:Int)+(j:Int)).toNat =k+j:=by omega);(have hj1:(j:Int)<(lb:Int):=by omega);(have hj0:(0:Int)≤(j:Int):=by omega);(have hw1:IntKind.u64.wrap (p:Int)=(p:Int):=by rw[IntKind.wrap_u64];omega);(have hw2:IntKind.u64.wrap ((old:Int)+(p:Int))=(old:Int)+(p:Int):=by rw[IntKind.wrap_u64];omega);(have hw3:IntKind.u64.wrap ((old:Int)+(p:Int)+(c:Int))=(old:Int)+(p:Int)+(c:Int):=by rw[IntKind.wrap_u64];omega);clear hc' hbo hv hbel hlq ht hkj hS hmd hdv hp;go_wp2;go_roundw;(case rel=>exact⟨j+1,_,_,by omega,by go_num,congrArg _ HDV.out,HR.out.2.2.2,HR.out.1,HR.out.2.1,HR.out.2.2.1⟩);case measure=>simp[intOf];omega
    ·(obtain rfl:j=lb:=by omega);have hkj:k+j<o'.length:=by have:=hv.out.len;omega
     have hV:lv ((digs n).take k)*m+1000000000^k*x*lv ((digs m).take j)=lv ((digs n).take (k+1))*m:=by
      rw[HT.out,List.take_of_length_le (l:=digs m) (by have:=HL.out.2;omega),(digs_canon m).2,Nat.add_mul]
     rw[hV]at hv;(have o0:wr.cell? ⟨w.heap.size,k+j,none⟩=some (.int .u64 ((o'[k+j]:Nat):Int)):=by rw[hbo.cell (k+j),List.getElem?_toArray,List.getElem?_map,List.getElem?_eq_getElem hkj];rfl);have of:=hbo.frozen (k+j);have ol:=hbo.lt
     have HR:=hid (show Blk (wr.setCell ⟨w.heap.size,k+j,none⟩ (.int .u64 (c:Int))) w.heap.size 184 ((o'.set (k+j) c).map lim).toArray ∧Hid (MulI (o'.set (k+j) c) (la+j) (k+1+j) (lv ((digs n).take (k+1))*m) 0 0)∧Below w.heap.size w (wr.setCell ⟨w.heap.size,k+j,none⟩ (.int .u64 (c:Int))) from
      ⟨by rw[<-set_lims];exact hbo.set_ (k+j) _,hid (by have:=hv.out.done hcB hkj;rwa[show k+j+1=k+1+j from by omega]at this),hbel.setCell (p:=⟨w.heap.size,k+j,none⟩) (Nat.le_refl _) _⟩)
     generalize o'[k+j]=old at*;(have hwk:IntKind.i64.wrap ((k:Int)+(j:Int))=(k:Int)+(j:Int):=by rw[IntKind.wrap_i64];omega);(have hb1:(k:Int)+(j:Int)<(la:Int)+(j:Int):=by omega);(have hb0:(0:Int)≤(k:Int)+(j:Int):=by omega);(have htn:((k:Int)+(j:Int)).toNat =k+j:=by omega);clear hbo hv hbel hkj hV;go_wp2;go_roundw;(case rel=>exact⟨k+1,_,by omega,by go_num,HR.out.1,HR.out.2.1,HR.out.2.2⟩);case measure=>simp[intOf];omega
  ·(obtain rfl:k=la:=by omega);(have hV:lv ((digs n).take k)*m=n*m:=by rw[List.take_of_length_le (by have:=HL.out.1;omega),(digs_canon n).2]);have hlo:=hv.out.len;have hval:lv o=n*m:=by have:=hv.out.val;rw[hV]at this;omega
   have HLS:=hid (show Lims (λb=>w.heap.size≤b) wr (.slice (some ⟨w.heap.size,0,none⟩) (k+lb) (k+lb)) o from by
    have:=lims_blk (Z:=λb=>w.heap.size≤b) (cap:=k+lb) hbo (Nat.le_refl _) hv.out.limbs (by omega) (by omega) (by omega)
    rwa[hlo]at this)
   have HTR:=hid (show Calls Tryz.prog 125 #[.slice (some ⟨w.heap.size,0,none⟩) (k+lb) (k+lb)] wr (λe w'=>e= .returned (.slice (some ⟨w.heap.size,0,none⟩) (trimL o (k+lb)) (k+lb))∧wr=w') from by
    have:=trim_any (some ⟨w.heap.size,0,none⟩) (k+lb) o _ wr (by rw[hlo];exact HLS.out)
    rwa[hlo]at this)
   have HV:=hid (And.intro hlo (And.intro hv.out.limbs (And.intro hval hbel)));clear hv hbel hbo hV hlo hval;go_wp2_with(go_at_call 125;refine HTR.out.mono ?_;rintro e w6 ⟨rfl,rfl⟩);go_ret;refine⟨_,rfl,NumS.of (HLS.out.take (by rw[HV.out.1];exact trimL_le _ _)) ?_,HV.out.2.2.2⟩;have:=trimL_digs HV.out.2.1 HV.out.2.2.1;rwa[HV.out.1]at this
end Go.Proofs.YtimmfbnjndndlaaGreatDoor
