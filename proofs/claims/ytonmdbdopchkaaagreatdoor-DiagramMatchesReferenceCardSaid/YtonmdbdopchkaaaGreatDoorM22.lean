/- Texts V9. -/
import Derived.Test.YtonmdbdopchkaaaGreatDoorM20
set_option linter.all false
namespace Go.Proofs.YtonmdbdopchkaaaGreatDoor
open Go.RowKit
set_option maxHeartbeats 4000000
set_option maxRecDepth 100000
theorem zHs(n:Nat)(w:World):Calls Tryz.prog 109 #[.int .u8 n] w λe w'=>e= .returned (.bool ((decide (97≤n∧n≤122)||decide (65≤n∧n≤90))))∧w=w':=by
 rcases(by omega:(97≤n∧n≤122)∨(122<n)∨(65≤n∧n≤90)∨(90<n∧n<97)∨(n<65))with h|h|h|h|h
 ·have e0:decide ((97:Int)≤(n:Int))=true:=by simp;omega
  have e1:decide ((n:Int)≤(122:Int))=true:=by simp;omega
  have HE:=hid (show(decide (97≤n∧n≤122)||decide (65≤n∧n≤90))=true from by simp;omega);clear h;go_enter Tryz.func109,Tryz.ntmps109
  go_wp2;go_ret;exact⟨zI HE.out.symm,rfl⟩
 ·have e0:decide ((97:Int)≤(n:Int))=true:=by simp;omega
  have e1:decide ((n:Int)≤(122:Int))=false:=by simp;omega
  have e2:decide ((65:Int)≤(n:Int))=true:=by simp;omega
  have e3:decide ((n:Int)≤(90:Int))=false:=by simp;omega
  have HE:=hid (show(decide (97≤n∧n≤122)||decide (65≤n∧n≤90))=false from by simp;omega);clear h;go_enter Tryz.func109,Tryz.ntmps109
  go_wp2;go_ret;exact⟨zI HE.out.symm,rfl⟩
 ·have e0:decide ((97:Int)≤(n:Int))=false:=by simp;omega
  have e1:decide ((65:Int)≤(n:Int))=true:=by simp;omega
  have e2:decide ((n:Int)≤(90:Int))=true:=by simp;omega
  have HE:=hid (show(decide (97≤n∧n≤122)||decide (65≤n∧n≤90))=true from by simp;omega);clear h;go_enter Tryz.func109,Tryz.ntmps109
  go_wp2;go_ret;exact⟨zI HE.out.symm,rfl⟩
 ·have e0:decide ((97:Int)≤(n:Int))=false:=by simp;omega
  have e1:decide ((65:Int)≤(n:Int))=true:=by simp;omega
  have e2:decide ((n:Int)≤(90:Int))=false:=by simp;omega
  have HE:=hid (show(decide (97≤n∧n≤122)||decide (65≤n∧n≤90))=false from by simp;omega);clear h;go_enter Tryz.func109,Tryz.ntmps109
  go_wp2;go_ret;exact⟨zI HE.out.symm,rfl⟩
 ·have e0:decide ((97:Int)≤(n:Int))=false:=by simp;omega
  have e1:decide ((65:Int)≤(n:Int))=false:=by simp;omega
  have HE:=hid (show(decide (97≤n∧n≤122)||decide (65≤n∧n≤90))=false from by simp;omega);clear h;go_enter Tryz.func109,Tryz.ntmps109
  go_wp2;go_ret;exact⟨zI HE.out.symm,rfl⟩
theorem zNe(n:Nat)(w:World):Calls Tryz.prog 132 #[.int .u8 n] w λe w'=>e= .returned (.bool (decide (48≤n∧n≤57)))∧w=w':=by
 rcases(by omega:(48≤n∧n≤57)∨(57<n)∨(n<48))with h|h|h
 ·have e0:decide ((48:Int)≤(n:Int))=true:=by simp;omega
  have e1:decide ((n:Int)≤(57:Int))=true:=by simp;omega
  have HE:=hid (show decide (48≤n∧n≤57)=true from by simp;omega);clear h;go_enter Tryz.func132,Tryz.ntmps132
  go_wp2;go_ret;exact⟨zI HE.out.symm,rfl⟩
 ·have e0:decide ((48:Int)≤(n:Int))=true:=by simp;omega
  have e1:decide ((n:Int)≤(57:Int))=false:=by simp;omega
  have HE:=hid (show decide (48≤n∧n≤57)=false from by simp;omega);clear h;go_enter Tryz.func132,Tryz.ntmps132
  go_wp2;go_ret;exact⟨zI HE.out.symm,rfl⟩
 ·have e0:decide ((48:Int)≤(n:Int))=false:=by simp;omega
  have HE:=hid (show decide (48≤n∧n≤57)=false from by simp;omega);clear h;go_enter Tryz.func132,Tryz.ntmps132
  go_wp2;go_ret;exact⟨zI HE.out.symm,rfl⟩
theorem zPG(n:Nat)(w:World):Calls Tryz.prog 108 #[.int .u8 n] w λe w'=>e= .returned (.bool ((decide (97≤n∧n≤122)||decide (65≤n∧n≤90))||(decide (48≤n∧n≤57)||decide (n=95))))∧w=w':=by
 have HL:=hid (zHs n);have HD:=hid (zNe n);cases hl:(decide (97≤n∧n≤122)||decide (65≤n∧n≤90))
 ·rw[hl]at HL;cases hd:decide (48≤n∧n≤57)
  ·rw[hd]at HD;by_cases h9:n=95
   ·(have e1:((n:Int)==(95:Int))=true:=by simp;omega);(have e2:decide (n=95)=true:=by simp[h9]);have HE:=hid e2;clear hl hd h9 e2;(go_enter Tryz.func108,Tryz.ntmps108);(go_wp2_with fail);refine(HL.out _).mono ?_;rintro e w1 ⟨rfl,rfl⟩;(go_wp2_with fail);refine(HD.out _).mono ?_;rintro e w1 ⟨rfl,rfl⟩;go_wp2;go_ret;exact⟨zI (by rw[HE.out];rfl),rfl⟩
   ·(have e1:((n:Int)==(95:Int))=false:=by simp;omega);(have e2:decide (n=95)=false:=by simp[h9]);have HE:=hid e2;clear hl hd h9 e2;(go_enter Tryz.func108,Tryz.ntmps108);(go_wp2_with fail);refine(HL.out _).mono ?_;rintro e w1 ⟨rfl,rfl⟩;(go_wp2_with fail);refine(HD.out _).mono ?_;rintro e w1 ⟨rfl,rfl⟩;go_wp2;go_ret;exact⟨zI (by rw[HE.out];rfl),rfl⟩
  ·rw[hd]at HD;clear hl hd;(go_enter Tryz.func108,Tryz.ntmps108);(go_wp2_with fail);refine(HL.out _).mono ?_;rintro e w1 ⟨rfl,rfl⟩;(go_wp2_with fail);refine(HD.out _).mono ?_;rintro e w1 ⟨rfl,rfl⟩;go_wp2;go_ret;exact⟨zI rfl,rfl⟩
 ·rw[hl]at HL;clear hl;go_enter Tryz.func108,Tryz.ntmps108
  go_wp2_with fail
  refine(HL.out _).mono ?_;rintro e w1 ⟨rfl,rfl⟩;go_wp2;go_ret;exact⟨zI rfl,rfl⟩
theorem zUE(c:UInt8):(decide (97≤c.toNat∧c.toNat≤122)||decide (65≤c.toNat∧c.toNat≤90))=zv c:=rfl
theorem zVc(c:UInt8):((decide (97≤c.toNat∧c.toNat≤122)||decide (65≤c.toNat∧c.toNat≤90))||(decide (48≤c.toNat∧c.toNat≤57)||decide (c.toNat=95)))=(zv c||zBs c):=by
 unfold zv zBs;rfl
theorem zMF(l:List UInt8):zA7 l=(decide (l≠[])&&decide (l.length≤24)&&(match l with|[]=>false|c::_=>zv c)&&l.all (λc=>zv c||zBs c)):=by
 cases l with
 |nil=>rfl
 |cons c r=>
  show(zv c&&(r.all λc=>zv c||zBs c)&&decide ((c::r).length ≤24))=(decide (c::r≠[])&&decide ((c::r).length ≤24)&&zv c&&(c::r).all λc=>zv c||zBs c);rw[List.all_cons,show decide (c::r≠[])=true from by simp];generalize (r.all λc=>zv c||zBs c)=a;generalize decide ((c::r).length ≤24)=b;cases zv c<;>cases a<;>cases zBs c<;>cases b<;>rfl
theorem byte_at{s:ByteArray}{k:Nat}(hk:k<s.size):s.data.toList[k]'(by simpa using hk)=s[k]:=by simp;rfl
theorem zQ2{s:ByteArray}(hp:0<s.size)(h24:s.size≤24)(hA:s.data.toList.all (λc=>zv c||zBs c)=true):zA7 s.data.toList=zv s[0]:=by
 have hb:=byte_at hp;have hl:s.data.toList.length=s.size:=by simp
 obtain⟨c,r,hcr⟩:=List.exists_cons_of_ne_nil (List.ne_nil_of_length_pos (l:=s.data.toList) (by omega));have hc:s[0]=c:=by rw[<-hb];simp only[hcr,List.getElem_cons_zero]
 rw[zMF,hA,Bool.and_true,hc,hcr];rw[hcr]at hl;rw[decide_eq_true (show(c::r).length ≤24 by omega)];simp
theorem zJZ(s:ByteArray)(hs:s.size≤140737488355328)(w:World):
  Calls Tryz.prog 85 #[.string s] w λe w'=>e= .returned (.bool (zA7 s.data.toList))∧w=w':=by
 have HU:=hid (zMF s.data.toList);go_enter Tryz.func85,Tryz.ntmps85
 go_wp2;go_loop[3] (λix=>∃k:Nat,k≤s.size∧ix= .int .i64 k∧Hid ((s.data.toList.take k).all (λc=>zv c||zBs c)=true)) (λix=>s.size-(intOf ix).toNat);case atStart=>exact⟨0,Nat.zero_le _,rfl,hid (by simp)⟩
 case round=>
  obtain⟨k,hk,rfl,hall⟩:=hrel;by_cases hlt:k<s.size
  ·have HW:=hid (zPG s[k].toNat);rw[zVc]at HW;have hb:=byte_at hlt;(have hll:k<s.data.toList.length:=by simpa using hlt);cases hw:(zv s[k]||zBs s[k])
   ·rw[hw]at HW
    have HE:=hid (HU.out.trans (show _=false from by
     have:s.data.toList.all (λc=>zv c||zBs c)=false:=by
      rw[List.all_eq_false];exact⟨s.data.toList[k],List.getElem_mem hll,by rw[hb,hw];decide⟩
     rw[this,Bool.and_false]))
    clear hw hb hll hall;(go_wp2_with fail);refine(HW.out _).mono ?_;rintro e w1 ⟨rfl,rfl⟩;go_wp2;go_ret;exact⟨zI HE.out.symm,rfl⟩
   ·rw[hw]at HW
    have HN:=hid (show(s.data.toList.take (k+1)).all (λc=>zv c||zBs c)=true from by
     rw[List.take_succ_eq_append_getElem hll,List.all_append,hall.out,hb]
     simp[hw])
    clear hw hb hll hall;(go_wp2_with fail);refine(HW.out _).mono ?_;rintro e w1 ⟨rfl,rfl⟩;go_wp2;go_round;(case rel=>exact⟨k+1,by omega,by go_num,HN⟩);case measure=>simp[intOf];omega
  ·(obtain rfl:k=s.size:=by omega);(have hsl:s.data.toList.length=s.size:=by simp);have HA:=hid (show s.data.toList.all (λc=>zv c||zBs c)=true from by have:=hall.out;rwa[<-hsl,List.take_length]at this);clear hall hsl;by_cases h0:s.size=0
   ·have e1:decide ((0:Int)<(s.size:Int))=false:=decide_eq_false (by omega);have e2:decide (0<s.size)=false:=decide_eq_false (by omega)
    have HE:=hid (HU.out.trans (show _=false from by
     have:s.data.toList=[]:=List.eq_nil_of_length_eq_zero (by simpa using h0)
     rw[this];rfl))
    (have hse:s=ByteArray.empty:=by simpa using h0);subst hse;clear e1 e2;go_wp2;go_ret;exact⟨zI HE.out.symm,rfl⟩
   ·have e1:decide ((0:Int)<(s.size:Int))=true:=decide_eq_true (by omega);(have hp:0<s.size:=by omega);(have hpi:(0:Int)<(s.size:Int):=by omega);by_cases h24:s.size≤24
    ·(have e2:decide ((s.size:Int)≤24)=true:=by simp;omega);have HL:=hid (zHs s[0].toNat);rw[zUE]at HL;have HE:=hid (zQ2 hp h24 HA.out);clear h0 h24;(go_wp2_with fail);refine(HL.out _).mono ?_;rintro e w1 ⟨rfl,rfl⟩;go_wp2;go_ret;exact⟨zI HE.out.symm,rfl⟩
    ·have e2:decide ((s.size:Int)≤24)=false:=by simp;omega
     have HE:=hid (HU.out.trans (show _=false from by
      have hl24:¬s.data.toList.length≤24:=by simpa using h24
      rw[decide_eq_false hl24,Bool.and_false];simp))
     clear h0 h24;go_wp2;go_ret;exact⟨zI HE.out.symm,rfl⟩
end Go.Proofs.YtonmdbdopchkaaaGreatDoor
