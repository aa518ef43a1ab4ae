/- Texts NK. -/
import Derived.Test.YtimmfbnjndndlaaGreatDoorM26
import Derived.Deep.LoopGhost
set_option linter.all false
namespace Go.Proofs.YtimmfbnjndndlaaGreatDoor
open Go.RowKit
set_option maxHeartbeats 8000000
set_option maxRecDepth 100000
theorem digs_len_mono{a b:Nat}(h:a≤b):(digs a).length ≤(digs b).length :=
 digs_length_le (Nat.lt_of_le_of_lt h (by have:=lv_lt (digs_canon b).1.limbs;rwa[(digs_canon b).2]at this))
theorem gcd_any(Z Z':Zone)(v v':Value)(n m:Nat)(w:World)(hn:NumS Z w v n)(hm:NumS Z' w v' m)(h1:(digs n).length ≤100000)(h2:(digs m).length ≤100000):
  Calls Tryz.prog 122 #[v,v'] w λe w'=>∃u,e= .returned u∧NumS (λb=>Z b∨Z' b∨w.heap.size≤b) w' u (Nat.gcd n m)∧Below w.heap.size w w':=by
 obtain⟨A,cap,rfl,hl1⟩:=Lims.part hn;obtain⟨A',cap',rfl,hl2⟩:=Lims.part hm;have HN:=hid hn;have HM:=hid hm;clear hn hm;obtain⟨la,hla⟩:∃la,(digs n).length =la:=⟨_,rfl⟩;obtain⟨lb,hlb⟩:∃lb,(digs m).length =lb:=⟨_,rfl⟩;rw[hla]at HN hl1 h1;rw[hlb]at HM hl2 h2;rw[hla,hlb];have HL:=hid (And.intro hla hlb);clear hla hlb;go_enter Tryz.func122,Tryz.ntmps122
 go_wp2;go_loopg[0,1] m (λkx s0 s1 wr=>∃(a b l1 l2 c1 c2:Nat)(A1 A2:Option Addr),s0= .slice A1 l1 c1∧s1= .slice A2 l2 c2∧b≤kx∧l1≤100000∧l2≤100000∧Hid ((digs a).length =l1∧(digs b).length =l2∧Nat.gcd a b=Nat.gcd n m)∧Hid (NumS (λb=>(Z b∨Z' b∨w.heap.size≤b)∧b<wr.heap.size) wr (.slice A1 l1 c1) a∧NumS (λb=>(Z b∨Z' b∨w.heap.size≤b)∧b<wr.heap.size) wr (.slice A2 l2 c2) b)∧Below w.heap.size w wr)
 case atStart=>exact⟨n,m,la,lb,_,_,_,_,rfl,rfl,Nat.le_refl _,h1,h2,hid ⟨HL.out.1,HL.out.2,rfl⟩,hid ⟨HN.out.live.mono λb hb=>⟨.inl hb.1,hb.2⟩,HM.out.live.mono λb hb=>⟨.inr (.inl hb.1),hb.2⟩⟩,Below.refl _ _⟩
 case round=>
  obtain⟨a,b,l1,l2,c1,c2,A1,A2,rfl,rfl,hkx,hl1,hl2,hE,hI,hbel⟩:=hrel;by_cases h0:l2=0
  ·have hb0:b=0:=by
    have:=hE.out.2.1;rw[h0]at this;exact digs_nil.1 (List.eq_nil_of_length_eq_zero this)
   subst h0
   have HR:=hid (show NumS (λb=>Z b∨Z' b∨w.heap.size≤b) wr (.slice A1 l1 c1) (Nat.gcd n m) from by
    have h:=hE.out.2.2;rw[hb0,Nat.gcd_zero_right]at h;rw[<-h]
    exact hI.out.1.mono λb hb=>hb.1)
   go_wp2;go_ret;exact⟨_,rfl,HR.out,hbel⟩
  ·have hb0:0<b:=by
    rcases Nat.eq_zero_or_pos b with rfl|h
    ·have:=hE.out.2.1;rw[digs_zero]at this;exact absurd this.symm h0
    ·exact h
   have e1:decide (0<l2)=true:=decide_eq_true (by omega);have HD:=hid (div_any _ _ _ _ a b wr hI.out.1 hI.out.2 (by rw[hE.out.1];exact hl1) (by rw[hE.out.2.1];exact hl2) hb0);have HF:=hid (And.intro hI (And.intro hE hbel));clear hI hE hbel h0;go_wp2_with(go_at_call 101;refine HD.out.mono ?_;rintro e w1 ⟨u,u',rfl,hu,hu',hb1⟩;obtain⟨Au,cu,rfl,-⟩:=Lims.part hu;obtain⟨Av,cv,rfl,-⟩:=Lims.part hu';have HU:=hid (And.intro hu' hb1);clear hu hu' hb1;obtain⟨lu,hlu⟩:∃lu,(digs (a / b)).length =lu:=⟨_,rfl⟩;obtain⟨lv,hlv⟩:∃lv,(digs (a%b)).length =lv:=⟨_,rfl⟩;rw[hlv]at HU;rw[hlu,hlv];have HLV:=hid hlv;clear hlu hlv);go_roundg(a%b);(case measure=>have:=Nat.mod_lt a hb0;omega);have hlt:=Nat.mod_lt a hb0;have hs:=HU.out.2.size
   exact⟨b,a%b,l2,lv,_,_,_,_,rfl,rfl,Nat.le_refl _,hl2,by have:=digs_len_mono (Nat.le_of_lt hlt);rw[HLV.out,HF.out.2.1.out.2.1]at this;omega,hid ⟨HF.out.2.1.out.2.1,HLV.out,by rw[<-HF.out.2.1.out.2.2,Nat.gcd_comm b,<-Nat.gcd_rec,Nat.gcd_comm]⟩,
    hid ⟨(HF.out.1.out.2.keep (.of_below HU.out.2)).mono λb hb=>⟨hb.1,by omega⟩,HU.out.1.live.mono λb hb=>⟨.inr (.inr (by have:=hb.1;have:=HF.out.2.2.size;omega)),hb.2⟩⟩,HBEL_trans HF.out.2.2 HU.out.2⟩
end Go.Proofs.YtimmfbnjndndlaaGreatDoor
