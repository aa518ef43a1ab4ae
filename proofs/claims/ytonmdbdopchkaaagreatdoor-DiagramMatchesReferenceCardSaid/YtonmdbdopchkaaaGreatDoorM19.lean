/- Texts W10. -/
import Derived.Test.YtonmdbdopchkaaaGreatDoorM15
set_option linter.all false
namespace Go.Proofs.YtonmdbdopchkaaaGreatDoor
open Go.RowKit
set_option maxHeartbeats 1000000
set_option maxRecDepth 100000
theorem zVb:zSQ.data.toList=[34,10]:=rfl
theorem zGI(chars:List UInt8):∀l:List UInt8,-1≤Lib.indexAny l chars∧(0≤Lib.indexAny l chars->(Lib.indexAny l chars).toNat <l.length)
 |[]=>by simp[Lib.indexAny]
 |b::l=>by
  have ih:=zGI chars l;unfold Lib.indexAny;split
  ·simp
  ·split
   ·simp
   ·rename_i h1 h2;(have:Lib.indexAny l chars≠ -1:=by simpa using h2);refine⟨by omega,λ_=> ?_⟩;have:=ih.2 (by omega);simp only[List.length_cons];omega
theorem zPC(S:Nat)(s:ByteArray)(i:Nat)(w:World)(h:zAa w S s)(hi:i<s.size)(hs:s.size≤20000)(hc:zP s i=9):
  Calls Tryz.prog 142 #[.pointer (some ⟨S,0,none⟩),.int .i64 (i:Int)] w (zCk s i w):=by
 have hS:=h.lt
 have hn:zAc s i=(⟨4,i,0,s.extract i (i+1)⟩,(i:Int)+1,0):=by
  unfold zAc;rw[if_neg (by omega),if_neg (by omega),if_neg (by omega),if_neg (by omega),if_pos hc]
 have HN:=hid hn;have H:=hid h;have HC:=hid hc;have s0:=h.1;clear hn hc h;go_enter Tryz.func142,Tryz.ntmps142
 go_wp2_with fail
 refine(zEe S s i _ (.alloc H.out _) (by omega) (by omega)).mono ?_;rintro e w' ⟨rfl,n,rfl⟩;rw[HC.out];go_wp2;refine bodyPost_ret (v:= .tuple #[.agg (Tok.cells ⟨4,i,0,s.extract i (i+1)⟩).toArray,.int .i64 ((i:Int)+1),.int .i64 0]) (by simp[results,Tryz.results142,go_sem];rfl) rfl (zAe HN.out (by(repeat(first|exact Below.refl _ _ |assumption|refine below_drewN' ?_ _ |refine Below.drew ?_ |(refine Below.setCell ?_ (by first|exact Nat.le_refl _ |(simp;done)|(simp;omega)|omega) _)|(refine Below.alloc ?_ (by first|exact Nat.le_refl _ |(simp;done)|(simp;omega)|omega) _)))))
theorem zQQ(S:Nat)(s:ByteArray)(i:Nat)(w:World)(h:zAa w S s)(hi:i<s.size)(hs:s.size≤20000)(h3:zP s i≠3)(h4:zP s i≠4)(h6:zP s i≠6)(h7:zP s i≠7)(h8:zP s i≠8)(h9:zP s i≠9):
  Calls Tryz.prog 142 #[.pointer (some ⟨S,0,none⟩),.int .i64 (i:Int)] w (zCk s i w):=by
 have hS:=h.lt
 have hn:zAc s i=(zCU,0,3):=by
  unfold zAc;rw[if_neg h3,if_neg h4,if_neg h6,if_neg (by omega),if_neg h9]
 have HN:=hid hn;have H:=hid h;have s0:=h.1;have k3:(zP s i==(3:Int))=false:=by simp[h3]
 have k4:(zP s i==(4:Int))=false:=by simp[h4]
 have k6:(zP s i==(6:Int))=false:=by simp[h6]
 have k7:(zP s i==(7:Int))=false:=by simp[h7]
 have k8:(zP s i==(8:Int))=false:=by simp[h8]
 have k9:(zP s i==(9:Int))=false:=by simp[h9]
 clear hn h h3 h4 h6 h7 h8 h9;go_enter Tryz.func142,Tryz.ntmps142
 go_wp2_with fail
 refine(zEe S s i _ (.alloc H.out _) (by omega) (by omega)).mono ?_;rintro e w' ⟨rfl,n,rfl⟩;go_wp2;refine bodyPost_ret (v:= .tuple #[.agg (Tok.cells zCU).toArray,.int .i64 0,.int .i64 3]) (by simp[results,Tryz.results142,go_sem];rfl) rfl (zAe HN.out (by(repeat(first|exact Below.refl _ _ |assumption|refine below_drewN' ?_ _ |refine Below.drew ?_ |(refine Below.setCell ?_ (by first|exact Nat.le_refl _ |(simp;done)|(simp;omega)|omega) _)|(refine Below.alloc ?_ (by first|exact Nat.le_refl _ |(simp;done)|(simp;omega)|omega) _)))))
theorem zL6(x p:ByteArray)(W:World):Calls Tryz.prog 156 #[.string x,.string p] W λe w'=>e= .returned (.bool (Lib.hasPrefix x.data.toList p.data.toList))∧W=w':=by
 refine(Tryz.strings_HasPrefix x p W).mono ?_;rintro e w' ⟨rfl,rfl⟩;exact⟨rfl,rfl⟩
theorem zMB(S:Nat)(s:ByteArray)(i:Nat)(w:World)(h:zAa w S s)(hi:i<s.size)(hs:s.size≤20000)(hc:zP s i=7∨zP s i=8):
  Calls Tryz.prog 142 #[.pointer (some ⟨S,0,none⟩),.int .i64 (i:Int)] w (zCk s i w):=by
 have hS:=h.lt
 have hn:zAc s i=(if Lib.hasPrefix (s.extract (i+1) s.size).data.toList [61]=true then(⟨4,i,0,s.extract i (i+2)⟩,(i:Int)+2,0)
   else if zP s i=7 then(zCU,0,3)else(⟨4,i,0,s.extract i (i+1)⟩,(i:Int)+1,0)):=by
  unfold zAc;rw[if_neg (by omega),if_neg (by omega),if_neg (by omega),if_pos hc]
 have hp:∀W,Calls Tryz.prog 156 #[.string (s.extract (i+1) s.size),.string ⟨#[61]⟩] W λe w'=>e= .returned (.bool (Lib.hasPrefix (s.extract (i+1) s.size).data.toList [61]))∧W=w':=λW=>zL6 _ ⟨#[61]⟩ W
 have hlen:Lib.hasPrefix (s.extract (i+1) s.size).data.toList [61]=true->i+2≤s.size:=by
  intro hh;unfold Lib.hasPrefix at hh;have:=(List.isPrefixOf_iff_prefix.1 hh).length_le;rw[Lib.extract_data]at this;simp at this;omega
 have HN:=hid hn;have HP:=hid hp;have H:=hid h;have s0:=h.1;clear hn h hp
 cases hh:Lib.hasPrefix (s.extract (i+1) s.size).data.toList [61]with
 |true=>
  rw[hh,if_pos rfl]at HN;rw[hh]at HP;have hl:=hlen hh;clear hlen hh;rcases hc with hc|hc
  all_goals
   have HC:=hid hc;clear hc;(go_enter Tryz.func142,Tryz.ntmps142);(go_wp2_with fail);refine(zEe S s i _ (.alloc H.out _) (by omega) (by omega)).mono ?_;rintro e w' ⟨rfl,n,rfl⟩;rw[HC.out];go_wp2_with(go_at_call 156;refine(HP.out _).mono ?_;rintro e w' ⟨rfl,rfl⟩);refine bodyPost_ret (v:= .tuple #[.agg (Tok.cells ⟨4,i,0,s.extract i (i+2)⟩).toArray,.int .i64 ((i:Int)+2),.int .i64 0]) (by simp[results,Tryz.results142,go_sem];rfl) rfl (zAe HN.out (by(repeat(first|exact Below.refl _ _ |assumption|refine below_drewN' ?_ _ |refine Below.drew ?_ |(refine Below.setCell ?_ (by first|exact Nat.le_refl _ |(simp;done)|(simp;omega)|omega) _)|(refine Below.alloc ?_ (by first|exact Nat.le_refl _ |(simp;done)|(simp;omega)|omega) _)))))
 |false=>
  rw[hh,if_neg (by simp)]at HN;rw[hh]at HP;clear hlen hh;rcases hc with hc|hc
  ·rw[if_pos hc]at HN;have HC:=hid hc;clear hc;(go_enter Tryz.func142,Tryz.ntmps142);(go_wp2_with fail);refine(zEe S s i _ (.alloc H.out _) (by omega) (by omega)).mono ?_;rintro e w' ⟨rfl,n,rfl⟩;rw[HC.out];go_wp2_with(go_at_call 156;refine(HP.out _).mono ?_;rintro e w' ⟨rfl,rfl⟩);refine bodyPost_ret (v:= .tuple #[.agg (Tok.cells zCU).toArray,.int .i64 0,.int .i64 3]) (by simp[results,Tryz.results142,go_sem];rfl) rfl (zAe HN.out (by(repeat(first|exact Below.refl _ _ |assumption|refine below_drewN' ?_ _ |refine Below.drew ?_ |(refine Below.setCell ?_ (by first|exact Nat.le_refl _ |(simp;done)|(simp;omega)|omega) _)|(refine Below.alloc ?_ (by first|exact Nat.le_refl _ |(simp;done)|(simp;omega)|omega) _)))))
  ·rw[if_neg (by omega)]at HN;have HC:=hid hc;clear hc;(go_enter Tryz.func142,Tryz.ntmps142);(go_wp2_with fail);refine(zEe S s i _ (.alloc H.out _) (by omega) (by omega)).mono ?_;rintro e w' ⟨rfl,n,rfl⟩;rw[HC.out];go_wp2_with(go_at_call 156;refine(HP.out _).mono ?_;rintro e w' ⟨rfl,rfl⟩);refine bodyPost_ret (v:= .tuple #[.agg (Tok.cells ⟨4,i,0,s.extract i (i+1)⟩).toArray,.int .i64 ((i:Int)+1),.int .i64 0]) (by simp[results,Tryz.results142,go_sem];rfl) rfl (zAe HN.out (by(repeat(first|exact Below.refl _ _ |assumption|refine below_drewN' ?_ _ |refine Below.drew ?_ |(refine Below.setCell ?_ (by first|exact Nat.le_refl _ |(simp;done)|(simp;omega)|omega) _)|(refine Below.alloc ?_ (by first|exact Nat.le_refl _ |(simp;done)|(simp;omega)|omega) _)))))
end Go.Proofs.YtonmdbdopchkaaaGreatDoor
