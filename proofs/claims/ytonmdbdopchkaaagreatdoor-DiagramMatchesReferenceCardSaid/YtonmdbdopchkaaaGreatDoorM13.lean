/- Texts W4 W34. -/
import Derived.Test.YtonmdbdopchkaaaGreatDoorM11
import Derived.Test.YtonmdbdopchkaaaGreatDoorM4
import Derived.Shelf.Abstract
import Derived.Test.YtonmdbdopchkaaaGreatDoorM12
set_option linter.all false
namespace Go.Proofs.YtonmdbdopchkaaaGreatDoor
open Go.RowKit
set_option maxHeartbeats 1000000
set_option maxRecDepth 100000
theorem zRU{ds:List zC}{nm:ByteArray}{i:Nat}(hi:i<ds.length):zEH ds nm i=decide (ds[i].name =nm):=by
 simp[zEH,List.getElem?_eq_getElem hi]
theorem zQI(B:Nat)(nm:ByteArray)(f:zC)(W:World)(hB:W.cell? ⟨B,0,none⟩=some (.string nm)):
  Calls Tryz.prog 104 #[.agg #[.string f.name,.int .i64 f.kind,.int .i64 f.lo,.int .i64 f.hi],.pointer (some ⟨B,0,none⟩)] W λe W'=>e= .returned (.bool (decide (f.name=nm)))∧Below W.heap.size W W':=by
 have hlt:B<W.heap.size:=lt_of_cell hB;go_enter Tryz.func104,Tryz.ntmps104
 go_wp2;go_ret;exact⟨zI (zAq _ _),(Below.refl _ _).alloc (Nat.le_refl _) _⟩
theorem zNJ(Z:zD)(v:Value)(ds:List zC)(nm:ByteArray)(w:World)(hd:Facts Z w v ds):
  Calls Tryz.prog 72 #[.agg #[v],.string nm] w λe w'=>e= .returned (.int .i64 (zV ds nm))∧Below w.heap.size w w':=by
 obtain⟨⟨A,cap,rfl,hcap,_,hbytes,hs⟩,hfit⟩:=hd;have eg:∀args w,(callFunc 104 args).run Tryz.prog w= .ok (.enter 104 args) w:=enters_of Tryz.func104 (by kernel_rfl) rfl;have hk2:zA Z w ((w.alloc (.cells #[.slice A ds.length cap] 27)).alloc (.cells #[.string nm] 9)):=((zA.refl _ _).alloc _).alloc _
 have HC:=hid (zJT 104 #[.pointer (some ⟨w.heap.size+1,0,none⟩)] eg (λcs x=>cs=zC.cells x) Z ds (zEH ds nm) A cap ((w.alloc (.cells #[.slice A ds.length cap] 27)).alloc (.cells #[.string nm] 9))
  (λcs x h=>⟨_,_,_,_,h⟩) (hs.imp (λ_ _ h=>h) hk2 (λ_ h=>h)) (by omega) (λi hi cs hcs W hW=>by
   subst hcs;rw[zRU hi]
   exact zQI (w.heap.size+1) nm ds[i] W (by rw[hW.cell (by simp)];simp)))
 clear hs;go_enter Tryz.func72,Tryz.ntmps72
 go_wp2_with fail
 refine HC.out.mono ?_;rintro e w1 ⟨rfl,hb1⟩;go_wp2;go_ret;exact⟨rfl,(((Below.refl _ _).alloc (Nat.le_refl _) _).alloc (by simp) _).trans (hb1.mono (by simp;omega))⟩
theorem Tryz.eInt:zCV Tryz.prog 3 1 8:=zE5 (z:= .int .i64 0) (by kernel_rfl) rfl (by decide)
theorem zNK(Z:zD)(v:Value)(ds:List zC)(w:World)(hd:Facts Z w v ds):
  Calls Tryz.prog 49 #[.agg #[v]] w λe w'=>∃v',e= .returned v'∧w'.ownsRow w.heap.size 3 1 v' (zBA ds).length ((zBA ds).map (.int .i64))∧Below w.heap.size w w':=by
 have hd':=hd;obtain⟨⟨A,cap,rfl,hcap,_,hbytes,hs⟩,hfit⟩:=hd;have hk1:zA Z w (w.alloc (.cells #[.slice A ds.length cap] 27)):=(zA.refl _ _).alloc _;have HV:=hid (zF3 Z _ ds (w.alloc (.cells #[.slice A ds.length cap] 27)) (hd'.keep hk1));clear hd';have HS:=hid hs;clear hs;go_enter Tryz.func49,Tryz.ntmps49
 by_cases hv:zR ds=true
 ·have HV1:=hid hv;clear hv;go_wp2_with fail
  refine HV.out.mono ?_;rintro e w1 ⟨rfl,hb1⟩;rw[HV1.out];obtain⟨hce,hfr⟩:=zKU hb1;have hbw:Below w.heap.size w w1:=(zE w _).trans (hb1.mono (by simp));clear hb1;go_wp2;go_loopw[3,12] (λc i wr=>∃k:Nat,k≤ds.length∧i= .int .i64 k∧wr.ownsRow w.heap.size 3 1 c k (((ds.take k).map zC.lo).map (.int .i64))∧Below w.heap.size w wr) (λ_ i _=>ds.length-(intOf i).toNat);case atStart=>exact⟨0,Nat.zero_le _,rfl,World.ownsRow_nil _ _ _ _,hbw⟩
  case round=>
   obtain⟨k,hk,rfl,hown,hbel⟩:=hrel;by_cases hlt:k<ds.length
   ·obtain⟨b,off,cs,rfl,hz,hcs,rfl⟩:=HS.out.at_ hlt;have hbs:b<w.heap.size:=lt_of_cell (zFm hcs).1;obtain⟨c0,c1,c2,c3⟩:=zFm (zFK hbel hbs hcs);clear hcs;have HT:=hid (zAw hlt);generalize ds[k]=f at*;obtain⟨nm,kd,lo,hi⟩:=f;simp only at c0 c1 c2 c3;go_wp2_with(at_builtin;refine zf rfl (.tmp 16) (.tmp 19) _ rfl Tryz.underlying32 Tryz.eInt rfl ((hown.alloc _).alloc _) rfl (news:=[.int .i64 lo]) rfl (one_cell (by simp)) (by simp[Value.oneCell']) (by unfold maxLen;omega) (by omega) (by simp;have:=hbel.size;omega) ?_;intro v1 w1 hown1 hg1 hat1);go_roundw
    case rel=>
     refine⟨k+1,by omega,by go_num,?_,zx (((hbel.alloc hbel.size _).alloc (by simp;have:=hbel.size;omega) _)) ((hown.alloc _).alloc _) hg1 (by simp;have:=hbel.size;omega) (Nat.le_refl _)⟩;rw[HT.out];simpa using hown1
    case measure=>simp[intOf];omega
   ·(obtain rfl:k=ds.length:=by omega);go_wp2;go_ret;refine⟨_,rfl,?_,hbel⟩;rw[zCm HV1.out];simpa using hown
 ·have hv':zR ds=false:=by simpa using hv
  have HV1:=hid hv';clear hv hv';go_wp2_with fail
  refine HV.out.mono ?_;rintro e w1 ⟨rfl,hb1⟩;rw[HV1.out];obtain⟨hce,hfr⟩:=zKU hb1;have hbw:Below w.heap.size w w1:=(zE w _).trans (hb1.mono (by simp));clear hb1;go_wp2;go_ret;refine⟨_,rfl,?_,hbw⟩;rw[zQS HV1.out];exact World.ownsRow_nil _ _ _ _
def zVa(P:Program)(g:FuncId)(lb:Array Value)(w:World)(xs:List Int)(p:Int->Bool):Prop:=
 ∀x∈xs,∀W,Below w.heap.size w W->Calls P g (#[.int .i64 x]++lb) W λe W'=>e= .returned (.bool (p x))∧Below W.heap.size W W'
theorem zGG(g:FuncId)(lb:Array Value)(eg:∀args w,(callFunc g args).run Tryz.prog w= .ok (.enter g args) w)(Z:zD)(v:Value)(xs:List Int)(p:Int->Bool)(w:World)
  (hs:zL Z w v xs)(hp:zVa Tryz.prog g lb w xs p):
  Calls Tryz.prog 50 #[v,.func (.func g) #[] lb] w λe w'=>e= .returned (.int .i64 (firstIdx (λi=>p (xs.getD i 0)) xs.length 0))∧Below w.heap.size w w':=by
 have HP:=hid hp;have HS:=hid hs;clear hp;obtain⟨⟨A,cap,rfl,hcap,hcap2,hlen,-⟩,-⟩:=hs;go_enter Tryz.func50,Tryz.ntmps50
 go_wp2;go_loopw[8] (λi wr=>∃k:Nat,k≤xs.length∧i= .int .i64 k∧Below w.heap.size w wr∧Hid (∀j,0≤j->j<k->(λi=>p (xs.getD i 0)) j=false)) (λi _=>xs.length-(intOf i).toNat);case atStart=>exact⟨0,Nat.zero_le _,rfl,Below.refl _ _,λj _ h=>absurd h (Nat.not_lt_zero j)⟩
 case round=>
  obtain⟨k,hk,rfl,hbel,hno⟩:=hrel;by_cases hlt:k<xs.length
  ·obtain⟨b,off,rfl,hz,hb,hc⟩:=HS.out.at_ hlt;have hc2:=brd hbel hc hb;have hbr:b<wr.heap.size:=lt_of_cell hc2;clear hc;have HC:=hid (HP.out _ (List.getElem_mem hlt) _ hbel);have zGs:=hid hbel;(have hgd:xs.getD k 0=xs[k]:=by simp[List.getD_eq_getElem?_getD,hlt]);have HGD:=hid hgd;clear hbel hgd;cases hpk:p xs[k]
   all_goals
    have HPK:=hid hpk;have HC':=HC.out;rw[hpk]at HC';clear hpk;have HC2:=hid HC';clear HC';(go_wp2_with fail);refine HC2.out.mono ?_;rintro e w1 ⟨rfl,hb1⟩;go_wp2
   ·go_roundw
    case rel=>exact⟨k+1,by omega,by go_num,(zy zGs.out hb1),λj h1 h2=>by
     by_cases e:j=k
     ·subst e;show p (xs.getD j 0)=false;rw[HGD.out];exact HPK.out
     ·exact hno.out j h1 (by omega)⟩
    case measure=>simp[intOf];omega
   ·go_ret;exact⟨zAD (zCS hno.out (Nat.zero_le _) (by omega) (by show p (xs.getD k 0)=true;rw[HGD.out];exact HPK.out)).symm,zy zGs.out hb1⟩
  ·(obtain rfl:k=xs.length:=by omega);go_wp2;go_ret;exact⟨zAD (zEN (λj h1 h2=>hno.out j h1 (by omega))).symm,hbel⟩
theorem zN5(v:Int):∀(l:List Int)(i:Nat)(m:List Int),m.length=i->firstIdx (λj=>decide (v<(m++l).getD j 0)) l.length i=if nx l v<l.length then((i+nx l v:Nat):Int)else-1
 |[],i,m,h=>by simp[firstIdx,nx]
 |c::r,i,m,h=>by
  have e:(m++c::r).getD i 0=c:=by subst h;simp[List.getD_eq_getElem?_getD]
  have ih:=zN5 v r (i+1) (m++[c]) (by simp[h]);rw[show m++[c]++r=m++c::r by simp]at ih;rw[List.length_cons,firstIdx];simp only[e,decide_eq_true_eq];unfold nx;by_cases hv:v<c
  ·rw[if_pos hv,if_pos hv,if_pos (by omega),Nat.add_zero]
  ·rw[if_neg hv,if_neg hv,ih];by_cases hn:nx r v<r.length
   ·rw[if_pos hn,if_pos (by omega)];congr 1;omega
   ·rw[if_neg hn,if_neg (by omega)]
theorem zRV(v:Int)(l:List Int):firstIdx (λj=>decide (v<l.getD j 0)) l.length 0=if nx l v<l.length then(nx l v:Int)else-1:=by
 have:=zN5 v l 0 [] rfl;simpa using this
theorem zRW(B:Nat)(v c:Int)(W:World)(hB:W.cell? ⟨B,0,none⟩=some (.int .i64 v)):
  Calls Tryz.prog 98 #[.int .i64 c,.pointer (some ⟨B,0,none⟩)] W λe W'=>e= .returned (.bool (decide (v<c)))∧Below W.heap.size W W':=by
 have hlt:B<W.heap.size:=lt_of_cell hB;go_enter Tryz.func98,Tryz.ntmps98
 go_wp2;go_ret;exact⟨rfl,Below.refl _ _⟩
theorem zLz(Z:zD)(n:zB)(cs:List Value)(v:Int)(w:World)(hn:zd Z w cs n):
  Calls Tryz.prog 59 #[.agg cs.toArray,.int .i64 v] w λe w'=>e= .returned (.int .i64 (nxL n v))∧Below w.heap.size w w':=by
 obtain⟨vc,vk,rfl,hf,hc,hk⟩:=hn;have eg:∀args w,(callFunc 98 args).run Tryz.prog w= .ok (.enter 98 args) w:=enters_of Tryz.func98 (by kernel_rfl) rfl;have hk2:zA Z w ((w.alloc (.cells #[.bool n.leaf,.int .i64 n.fact,vc,vk] 51)).alloc (.cells #[.int .i64 v] 3)):=((zA.refl _ _).alloc _).alloc _
 have HC:=hid (zGG 98 #[.pointer (some ⟨w.heap.size+1,0,none⟩)] eg Z vc n.cuts (λc=>decide (v<c)) ((w.alloc (.cells #[.bool n.leaf,.int .i64 n.fact,vc,vk] 51)).alloc (.cells #[.int .i64 v] 3)) (hc.keep hk2) (λc _ W hW=>by
  refine zRW (w.heap.size+1) v c W (by rw[hW.cell (by simp)];simp)))
 rw[zRV]at HC;obtain⟨⟨A,cap,rfl,hcap,hcap2,hlen,-⟩,-⟩:=hc;obtain⟨⟨AK,capK,rfl,hcapK,hcapK2,hlenK,-⟩,-⟩:=hk;have hnl:nx n.cuts v<n.cuts.length->(nx n.cuts v:Int)≤17592186044416:=λh=>by omega
 have HNL:Hid (nxL n v=if nx n.cuts v<n.cuts.length then(nx n.cuts v:Int)else(n.kids.length:Int)-1):=hid rfl;by_cases h:nx n.cuts v<n.cuts.length
 ·have hb:=hnl h;rw[if_pos h]at HC HNL;have h0:decide ((nx n.cuts v:Int)<0)=false:=by simp
  clear h hnl;generalize nx n.cuts v=q at*;go_enter Tryz.func59,Tryz.ntmps59
  go_wp2_with fail
  refine HC.out.mono ?_;rintro e w1 ⟨rfl,hb1⟩;have hbw:=zy (zy (zE w _) (zE _ _)) hb1 (by simp);go_wp2;go_ret;exact⟨zAD HNL.out.symm,hbw⟩
 ·rw[if_neg h]at HC HNL;clear h hnl;go_enter Tryz.func59,Tryz.ntmps59
  go_wp2_with fail
  refine HC.out.mono ?_;rintro e w1 ⟨rfl,hb1⟩;have hbw:=zy (zy (zE w _) (zE _ _)) hb1 (by simp);have c3:w1.cell? ⟨w.heap.size,3,none⟩=some (.slice AK n.kids.length capK):=by rw[hb1.cell (p:=⟨w.heap.size,3,none⟩) (by simp;omega)];simp
  have c3l:=lt_of_cell c3;go_wp2;go_ret;exact⟨zAD HNL.out.symm,hbw⟩
end Go.Proofs.YtonmdbdopchkaaaGreatDoor
