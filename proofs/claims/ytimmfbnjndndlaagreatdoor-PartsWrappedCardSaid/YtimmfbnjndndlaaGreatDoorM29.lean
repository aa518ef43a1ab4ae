/- Texts W10 W11 W12. -/
import Derived.Test.YtimmfbnjndndlaaGreatDoorM28
import Derived.Test.YtimmfbnjndndlaaGreatDoorM4
set_option linter.all false
namespace Go.Proofs.YtimmfbnjndndlaaGreatDoor
open Go.RowKit
set_option maxHeartbeats 1000000
set_option maxRecDepth 100000
theorem q3410:quotes.data.toList=[34,10]:=rfl
theorem indexAny_lt'(chars:List UInt8):∀l:List UInt8,-1≤Lib.indexAny l chars∧(0≤Lib.indexAny l chars->(Lib.indexAny l chars).toNat <l.length)
 |[]=>by simp[Lib.indexAny]
 |b::l=>by
  have ih:=indexAny_lt' chars l;unfold Lib.indexAny;split
  ·simp
  ·split
   ·simp
   ·rename_i h1 h2;(have:Lib.indexAny l chars≠ -1:=by simpa using h2);refine⟨by omega,λ_=> ?_⟩;have:=ih.2 (by omega);simp only[List.length_cons];omega
theorem next_symbol(S:Nat)(s:ByteArray)(i:Nat)(w:World)(h:ScanAt w S s)(hi:i<s.size)(hs:s.size≤20000)(hc:classAt s i=9):
  Calls Tryz.prog 113 #[.pointer (some ⟨S,0,none⟩),.int .i64 (i:Int)] w (NextPost s i w):=by
 have hS:=h.lt
 have hn:nextS s i=(⟨4,i,0,s.extract i (i+1)⟩,(i:Int)+1,0):=by
  unfold nextS;rw[if_neg (by omega),if_neg (by omega),if_neg (by omega),if_neg (by omega),if_pos hc]
 have HN:=hid hn;have H:=hid h;have HC:=hid hc;have s0:=h.1;clear hn hc h;go_enter Tryz.func113,Tryz.ntmps113
 go_wp2_with fail
 refine(at_nat S s i _ (.alloc H.out _) (by omega) (by omega)).mono ?_;rintro e w' ⟨rfl,n,rfl⟩;rw[HC.out];go_wp2;refine bodyPost_ret (v:= .tuple #[.agg (Tok.cells ⟨4,i,0,s.extract i (i+1)⟩).toArray,.int .i64 ((i:Int)+1),.int .i64 0]) (by simp[results,Tryz.results113,go_sem];rfl) rfl (nextPost_mk HN.out (by(repeat(first|exact Below.refl _ _ |assumption|refine below_drewN' ?_ _ |refine Below.drew ?_ |(refine Below.setCell ?_ (by first|exact Nat.le_refl _ |(simp;done)|(simp;omega)|omega) _)|(refine Below.alloc ?_ (by first|exact Nat.le_refl _ |(simp;done)|(simp;omega)|omega) _)))))
theorem next_other(S:Nat)(s:ByteArray)(i:Nat)(w:World)(h:ScanAt w S s)(hi:i<s.size)(hs:s.size≤20000)(h3:classAt s i≠3)(h4:classAt s i≠4)(h6:classAt s i≠6)(h7:classAt s i≠7)(h8:classAt s i≠8)(h9:classAt s i≠9):
  Calls Tryz.prog 113 #[.pointer (some ⟨S,0,none⟩),.int .i64 (i:Int)] w (NextPost s i w):=by
 have hS:=h.lt
 have hn:nextS s i=(tok0,0,3):=by
  unfold nextS;rw[if_neg h3,if_neg h4,if_neg h6,if_neg (by omega),if_neg h9]
 have HN:=hid hn;have H:=hid h;have s0:=h.1;have k3:(classAt s i==(3:Int))=false:=by simp[h3]
 have k4:(classAt s i==(4:Int))=false:=by simp[h4]
 have k6:(classAt s i==(6:Int))=false:=by simp[h6]
 have k7:(classAt s i==(7:Int))=false:=by simp[h7]
 have k8:(classAt s i==(8:Int))=false:=by simp[h8]
 have k9:(classAt s i==(9:Int))=false:=by simp[h9]
 clear hn h h3 h4 h6 h7 h8 h9;go_enter Tryz.func113,Tryz.ntmps113
 go_wp2_with fail
 refine(at_nat S s i _ (.alloc H.out _) (by omega) (by omega)).mono ?_;rintro e w' ⟨rfl,n,rfl⟩;go_wp2;refine bodyPost_ret (v:= .tuple #[.agg (Tok.cells tok0).toArray,.int .i64 0,.int .i64 3]) (by simp[results,Tryz.results113,go_sem];rfl) rfl (nextPost_mk HN.out (by(repeat(first|exact Below.refl _ _ |assumption|refine below_drewN' ?_ _ |refine Below.drew ?_ |(refine Below.setCell ?_ (by first|exact Nat.le_refl _ |(simp;done)|(simp;omega)|omega) _)|(refine Below.alloc ?_ (by first|exact Nat.le_refl _ |(simp;done)|(simp;omega)|omega) _)))))
theorem hasPrefix_call(x p:ByteArray)(W:World):Calls Tryz.prog 148 #[.string x,.string p] W λe w'=>e= .returned (.bool (Lib.hasPrefix x.data.toList p.data.toList))∧W=w':=by
 refine(Tryz.strings_HasPrefix x p W).mono ?_;rintro e w' ⟨rfl,rfl⟩;exact⟨rfl,rfl⟩
theorem next_mark(S:Nat)(s:ByteArray)(i:Nat)(w:World)(h:ScanAt w S s)(hi:i<s.size)(hs:s.size≤20000)(hc:classAt s i=7∨classAt s i=8):
  Calls Tryz.prog 113 #[.pointer (some ⟨S,0,none⟩),.int .i64 (i:Int)] w (NextPost s i w):=by
 have hS:=h.lt
 have hn:nextS s i=(if Lib.hasPrefix (s.extract (i+1) s.size).data.toList [61]=true then(⟨4,i,0,s.extract i (i+2)⟩,(i:Int)+2,0)
   else if classAt s i=7 then(tok0,0,3)else(⟨4,i,0,s.extract i (i+1)⟩,(i:Int)+1,0)):=by
  unfold nextS;rw[if_neg (by omega),if_neg (by omega),if_neg (by omega),if_pos hc]
 have hp:∀W,Calls Tryz.prog 148 #[.string (s.extract (i+1) s.size),.string ⟨#[61]⟩] W λe w'=>e= .returned (.bool (Lib.hasPrefix (s.extract (i+1) s.size).data.toList [61]))∧W=w':=λW=>hasPrefix_call _ ⟨#[61]⟩ W
 have hlen:Lib.hasPrefix (s.extract (i+1) s.size).data.toList [61]=true->i+2≤s.size:=by
  intro hh;unfold Lib.hasPrefix at hh;have:=(List.isPrefixOf_iff_prefix.1 hh).length_le;rw[Lib.extract_data]at this;simp at this;omega
 have HN:=hid hn;have HP:=hid hp;have H:=hid h;have s0:=h.1;clear hn h hp
 cases hh:Lib.hasPrefix (s.extract (i+1) s.size).data.toList [61]with
 |true=>
  rw[hh,if_pos rfl]at HN;rw[hh]at HP;have hl:=hlen hh;clear hlen hh;rcases hc with hc|hc
  all_goals
   have HC:=hid hc;clear hc;(go_enter Tryz.func113,Tryz.ntmps113);(go_wp2_with fail);refine(at_nat S s i _ (.alloc H.out _) (by omega) (by omega)).mono ?_;rintro e w' ⟨rfl,n,rfl⟩;rw[HC.out];go_wp2_with(go_at_call 148;refine(HP.out _).mono ?_;rintro e w' ⟨rfl,rfl⟩);refine bodyPost_ret (v:= .tuple #[.agg (Tok.cells ⟨4,i,0,s.extract i (i+2)⟩).toArray,.int .i64 ((i:Int)+2),.int .i64 0]) (by simp[results,Tryz.results113,go_sem];rfl) rfl (nextPost_mk HN.out (by(repeat(first|exact Below.refl _ _ |assumption|refine below_drewN' ?_ _ |refine Below.drew ?_ |(refine Below.setCell ?_ (by first|exact Nat.le_refl _ |(simp;done)|(simp;omega)|omega) _)|(refine Below.alloc ?_ (by first|exact Nat.le_refl _ |(simp;done)|(simp;omega)|omega) _)))))
 |false=>
  rw[hh,if_neg (by simp)]at HN;rw[hh]at HP;clear hlen hh;rcases hc with hc|hc
  ·rw[if_pos hc]at HN;have HC:=hid hc;clear hc;(go_enter Tryz.func113,Tryz.ntmps113);(go_wp2_with fail);refine(at_nat S s i _ (.alloc H.out _) (by omega) (by omega)).mono ?_;rintro e w' ⟨rfl,n,rfl⟩;rw[HC.out];go_wp2_with(go_at_call 148;refine(HP.out _).mono ?_;rintro e w' ⟨rfl,rfl⟩);refine bodyPost_ret (v:= .tuple #[.agg (Tok.cells tok0).toArray,.int .i64 0,.int .i64 3]) (by simp[results,Tryz.results113,go_sem];rfl) rfl (nextPost_mk HN.out (by(repeat(first|exact Below.refl _ _ |assumption|refine below_drewN' ?_ _ |refine Below.drew ?_ |(refine Below.setCell ?_ (by first|exact Nat.le_refl _ |(simp;done)|(simp;omega)|omega) _)|(refine Below.alloc ?_ (by first|exact Nat.le_refl _ |(simp;done)|(simp;omega)|omega) _)))))
  ·rw[if_neg (by omega)]at HN;have HC:=hid hc;clear hc;(go_enter Tryz.func113,Tryz.ntmps113);(go_wp2_with fail);refine(at_nat S s i _ (.alloc H.out _) (by omega) (by omega)).mono ?_;rintro e w' ⟨rfl,n,rfl⟩;rw[HC.out];go_wp2_with(go_at_call 148;refine(HP.out _).mono ?_;rintro e w' ⟨rfl,rfl⟩);refine bodyPost_ret (v:= .tuple #[.agg (Tok.cells ⟨4,i,0,s.extract i (i+1)⟩).toArray,.int .i64 ((i:Int)+1),.int .i64 0]) (by simp[results,Tryz.results113,go_sem];rfl) rfl (nextPost_mk HN.out (by(repeat(first|exact Below.refl _ _ |assumption|refine below_drewN' ?_ _ |refine Below.drew ?_ |(refine Below.setCell ?_ (by first|exact Nat.le_refl _ |(simp;done)|(simp;omega)|omega) _)|(refine Below.alloc ?_ (by first|exact Nat.le_refl _ |(simp;done)|(simp;omega)|omega) _)))))
theorem getElem_list{s:ByteArray}{k:Nat}(hk:k<s.size){c:UInt8}:s.data.toList[k]? =some c↔s[k]=c:=by
 rw[getElem_toList hk];simp
theorem next_quote(S:Nat)(s:ByteArray)(i:Nat)(w:World)(h:ScanAt w S s)(hi:i<s.size)(hs:s.size≤20000)(hc:classAt s i=6):
  Calls Tryz.prog 113 #[.pointer (some ⟨S,0,none⟩),.int .i64 (i:Int)] w (NextPost s i w):=by
 have hS:=h.lt
 have hn:nextS s i=(if Lib.indexAny (s.extract (i+1) s.size).data.toList [34,10]<0∨(s.extract (i+1) s.size).data.toList[(Lib.indexAny (s.extract (i+1) s.size).data.toList [34,10]).toNat]? =some 10 then(tok0,0,6)
   else if 400<Lib.indexAny (s.extract (i+1) s.size).data.toList [34,10]then(tok0,0,2)
   else(⟨3,i,0,(s.extract (i+1) s.size).extract 0 (Lib.indexAny (s.extract (i+1) s.size).data.toList [34,10]).toNat⟩,i+Lib.indexAny (s.extract (i+1) s.size).data.toList [34,10]+2,0)):=by
  unfold nextS;rw[if_neg (by omega),if_neg (by omega),if_pos hc]
 obtain⟨b1,b2⟩:=indexAny_lt' [34,10] (s.extract (i+1) s.size).data.toList;have hrs:(s.extract (i+1) s.size).size =s.size-(i+1):=by simp
 have HIA:=hid (λW=>indexAny_q quotes (by decide) rfl (s.extract (i+1) s.size) (by omega) W);rw[q3410]at HIA;have HN:=hid hn;have H:=hid h;have HC:=hid hc;have s0:=h.1;have HRS:=hid hrs;have hb2:0≤Lib.indexAny (s.extract (i+1) s.size).data.toList [34,10]->(Lib.indexAny (s.extract (i+1) s.size).data.toList [34,10]).toNat <(s.extract (i+1) s.size).size :=by simpa using b2
 have e1:((i:Nat):Int)+1≤s.size:=by omega
 clear hn hc h hrs b2;go_enter Tryz.func113,Tryz.ntmps113
 go_wp2_with fail
 refine(at_nat S s i _ (.alloc H.out _) (by omega) (by omega)).mono ?_;rintro e w' ⟨rfl,n,rfl⟩;rw[HC.out];go_wp2_with fail
 refine(HIA.out _).mono ?_;rintro e w3 ⟨rfl,hb3⟩;have tb:Blk w3 w.heap.size 142 #[.int .i64 0,.int .i64 0,.int .i64 0,.string ⟨#[]⟩]:=Blk.below (.drewN (Blk.new w _ _) _) hb3 (by simp);have s3:=(ScanAt.below (.drewN (.alloc H.out _) _) hb3 (by simp;omega)).1;have t0:=tb.at0;have t1:=tb.at1;have t2:=tb.at2;have t3:=tb.at3;have f0:=tb.frozen 0;have f1:=tb.frozen 1;have f2:=tb.frozen 2;have f3:=tb.frozen 3;have hbel:Below w.heap.size w w3:= .trans (by(repeat(first|exact Below.refl _ _ |assumption|refine below_drewN' ?_ _ |refine Below.drew ?_ |(refine Below.setCell ?_ (by first|exact Nat.le_refl _ |(simp;done)|(simp;omega)|omega) _)|(refine Below.alloc ?_ (by first|exact Nat.le_refl _ |(simp;done)|(simp;omega)|omega) _)))) (hb3.mono (by simp));clear tb hb3 s0;generalize s.extract (i+1) s.size=r at*;generalize hq:Lib.indexAny r.data.toList [34,10]=q at*;clear hq;by_cases hneg:q<0
 ·rw[if_pos (Or.inl hneg)]at HN;have hneg':decide (q<0)=true:=by simpa using hneg
  go_wp2;refine bodyPost_ret (v:= .tuple #[.agg (Tok.cells tok0).toArray,.int .i64 0,.int .i64 6]) (by simp[results,Tryz.results113,go_sem,t0,t1,t2,t3];rfl) rfl (nextPost_mk HN.out (by(repeat(first|exact Below.refl _ _ |assumption|refine below_drewN' ?_ _ |refine Below.drew ?_ |(refine Below.setCell ?_ (by first|exact Nat.le_refl _ |(simp;done)|(simp;omega)|omega) _)|(refine Below.alloc ?_ (by first|exact Nat.le_refl _ |(simp;done)|(simp;omega)|omega) _)))))
 ·have hneg':decide (q<0)=false:=by simpa using hneg
  obtain⟨m,rfl⟩:∃m:Nat,q=m:=⟨q.toNat,by omega⟩;have hm:=hb2 (by omega);simp only[Int.toNat_natCast]at hm HN;have hrsz:=HRS.out;have hmI:((m:Nat):Int)<(r.size:Int):=by omega
  clear hb2;by_cases h10:r[m]=10
  ·rw[if_pos (Or.inr ((getElem_list hm).2 h10))]at HN;(have h10':(((r[m].toNat :Nat):Int)==10)=true:=by rw[h10];rfl);clear h10;go_wp2;refine bodyPost_ret (v:= .tuple #[.agg (Tok.cells tok0).toArray,.int .i64 0,.int .i64 6]) (by simp[results,Tryz.results113,go_sem,t0,t1,t2,t3];rfl) rfl (nextPost_mk HN.out (by(repeat(first|exact Below.refl _ _ |assumption|refine below_drewN' ?_ _ |refine Below.drew ?_ |(refine Below.setCell ?_ (by first|exact Nat.le_refl _ |(simp;done)|(simp;omega)|omega) _)|(refine Below.alloc ?_ (by first|exact Nat.le_refl _ |(simp;done)|(simp;omega)|omega) _)))))
  ·rw[if_neg (λhh=>hh.elim (λa=>hneg a) (λa=>h10 ((getElem_list hm).1 a)))]at HN
   have h10':(((r[m].toNat :Nat):Int)==10)=false:=by
    rw[beq_eq_false_iff_ne];intro e;exact h10 (UInt8.toNat_inj.1 (by have e10:(10:UInt8).toNat =10:=rfl;omega))
   clear h10;by_cases h400:(400:Int)<m
   ·rw[if_pos h400]at HN;go_wp2;refine bodyPost_ret (v:= .tuple #[.agg (Tok.cells tok0).toArray,.int .i64 0,.int .i64 2]) (by simp[results,Tryz.results113,go_sem,t0,t1,t2,t3];rfl) rfl (nextPost_mk HN.out (by(repeat(first|exact Below.refl _ _ |assumption|refine below_drewN' ?_ _ |refine Below.drew ?_ |(refine Below.setCell ?_ (by first|exact Nat.le_refl _ |(simp;done)|(simp;omega)|omega) _)|(refine Below.alloc ?_ (by first|exact Nat.le_refl _ |(simp;done)|(simp;omega)|omega) _)))))
   ·rw[if_neg h400]at HN;go_wp2;refine bodyPost_ret (v:= .tuple #[.agg (Tok.cells ⟨3,i,0,r.extract 0 m⟩).toArray,.int .i64 ((i:Int)+m+2),.int .i64 0]) (by simp[results,Tryz.results113,go_sem,t0,t1,t2,t3];rfl) rfl (nextPost_mk HN.out (by(repeat(first|exact Below.refl _ _ |assumption|refine below_drewN' ?_ _ |refine Below.drew ?_ |(refine Below.setCell ?_ (by first|exact Nat.le_refl _ |(simp;done)|(simp;omega)|omega) _)|(refine Below.alloc ?_ (by first|exact Nat.le_refl _ |(simp;done)|(simp;omega)|omega) _)))))
theorem next_any(S:Nat)(s:ByteArray)(i:Nat)(w:World)(h:ScanAt w S s)(hi:i<s.size)(hs:s.size≤20000):
  Calls Tryz.prog 113 #[.pointer (some ⟨S,0,none⟩),.int .i64 (i:Int)] w (NextPost s i w):=by
 by_cases h3:classAt s i=3
 ·exact next_letter S s i w h hi hs h3
 by_cases h4:classAt s i=4
 ·exact next_digit S s i w h hi hs h4
 by_cases h6:classAt s i=6
 ·exact next_quote S s i w h hi hs h6
 by_cases h7:classAt s i=7
 ·exact next_mark S s i w h hi hs (.inl h7)
 by_cases h8:classAt s i=8
 ·exact next_mark S s i w h hi hs (.inr h8)
 by_cases h9:classAt s i=9
 ·exact next_symbol S s i w h hi hs h9
 exact next_other S s i w h hi hs h3 h4 h6 h7 h8 h9
def scanCells(s:ByteArray):Array Value:=#[.string s]++valsI cls9
theorem scanCells_size(s:ByteArray):(scanCells s).size =257:=by simp[scanCells,valsI_size,cls9_size]
theorem foldl_setFrom:∀(l:List Value)(k o:Nat)(cs:Array Value),(l.zipIdx k).foldl (λcs x=>cs.setIfInBounds (o+x.2) x.1) cs=setFrom cs l (o+k)
 |[],_,_,_=>rfl
 |v::r,k,o,cs=>by
  simp only[List.zipIdx_cons,List.foldl_cons];rw[foldl_setFrom r (k+1) o];rfl
theorem Tryz.zc179:Tryz.zeroCells172.size=257:=by kernel_rfl
theorem Tryz.sz179:(Tryz.prog.info? 172).map (·.size)=some 257:=by kernel_rfl
theorem scan_build(s:ByteArray):(Array.foldl (λcs x=>cs.setIfInBounds (1+x.snd) x.fst) (Tryz.zeroCells172.setIfInBounds 0 (Value.string s)) (valsI cls9).zipIdx 0 256)=scanCells s:=by
 have h9:(valsI cls9).size =256:=by rw[valsI_size,cls9_size]
 have e:(valsI cls9).zipIdx.size =256:=by simp[h9]
 rw[<-e,<-Array.foldl_toList,Array.toList_zipIdx,foldl_setFrom];apply Array.ext_getElem?;intro j;rw[setFrom_get _ _ _ (by simp[h9])];simp only[Array.length_toList,h9];have hz:=Tryz.zc179;by_cases h0:j=0
 ·subst h0;rw[if_neg (by omega)];simp only[scanCells];rw[Array.getElem?_append_left (by simp)];simp[hz]
 ·by_cases h1:j<257
  ·rw[if_pos (by omega)];simp only[scanCells];rw[Array.getElem?_append_right (by simp;omega)];simp
  ·rw[if_neg (by omega)];rw[Array.getElem?_eq_none (by simp[hz];omega),Array.getElem?_eq_none (by have:=scanCells_size s;omega)]
theorem scanCells_one(s:ByteArray):(scanCells s).all (·.oneCell')=true:=by
 unfold scanCells;rw[Array.all_append,valsI_one];simp[Value.oneCell']
theorem scanAt_of{w:World}{S:Nat}{s:ByteArray}{t:TypeId}(h:Blk w S t (scanCells s)):ScanAt w S s:=by
 refine⟨by rw[h.cell];unfold scanCells;rw[Array.getElem?_append_left (by simp)];rfl,λb=> ?_⟩;rw[h.cell];unfold scanCells;rw[Array.getElem?_append_right (by simp),valsI_get];have:=cls9_at b;simp[this]
def lexT(s:ByteArray):Nat->Nat->List Tok->List Tok × Int × Int
 |0,_,acc=>(acc,0,0)
 |f+1,i,acc=>
  if i<s.size then
   (if(nextS s i).2.2=0∧acc.length=5000 then([],2,i)
    else if(nextS s i).2.2≠0 then([],(nextS s i).2.2,i)
    else lexT s f (gapS s (nextS s i).2.1.toNat) (acc++[(nextS s i).1]))
  else(acc,0,0)
def lexS(s:ByteArray):List Tok × Int × Int:=if 20000<s.size then([],2,-1)else lexT s (s.size+1) (gapS s 0) []
theorem gapT_bounds(s:ByteArray):∀f j,j≤s.size->j≤gapT s f j∧gapT s f j≤s.size
 |0,j,h=>⟨Nat.le_refl _,h⟩
 |f+1,j,h=>by
  unfold gapT;split
  ·split
   ·exact⟨h,Nat.le_refl _⟩
   ·have h1:=nlAt_ge s h;have h2:=runEnd_spec s [1] (i:=j+(nlAt s j).toNat) (by omega);have h3:=gapT_bounds s f _ h2.2.1;exact⟨by omega,h3.2⟩
  ·exact⟨Nat.le_refl _,h⟩
theorem gapS_bounds(s:ByteArray){i:Nat}(h:i≤s.size):i≤gapS s i∧gapS s i≤s.size:=by
 have h2:=runEnd_spec s [1] h;have h3:=gapT_bounds s (s.size+1) _ h2.2.1;unfold gapS;exact⟨by omega,h3.2⟩
theorem nextS_bounds{s:ByteArray}{i:Nat}(hi:i<s.size)(h:(nextS s i).2.2=0):(i:Int)<(nextS s i).2.1∧(nextS s i).2.1≤s.size:=by
 unfold nextS at h⊢;split at h
 ·rename_i hc;rw[if_pos hc];split at h
  ·simp at h
  ·rename_i hk;rw[if_neg hk];obtain⟨h1,h2,_,h4⟩:=runEnd_spec s [3,4,5] (i:=i) (by omega)
   have:i<runEnd s [3,4,5] i:=by
    rcases Nat.lt_or_ge i (runEnd s [3,4,5] i)with h'|h'
    ·exact h'
    ·(have e:runEnd s [3,4,5] i=i:=by omega);have:=h4 (by omega);rw[e,hc]at this;simp at this
   exact⟨by show(i:Int)<((runEnd s [3,4,5] i:Nat):Int);omega,by show((runEnd s [3,4,5] i:Nat):Int)≤_;omega⟩
 ·rename_i hc3;rw[if_neg hc3];split at h
  ·rename_i hc;rw[if_pos hc];split at h
   ·simp at h
   ·rename_i hk;rw[if_neg hk];obtain⟨h1,h2,_,h4⟩:=runEnd_spec s [4] (i:=i) (by omega)
    have:i<runEnd s [4] i:=by
     rcases Nat.lt_or_ge i (runEnd s [4] i)with h'|h'
     ·exact h'
     ·(have e:runEnd s [4] i=i:=by omega);have:=h4 (by omega);rw[e,hc]at this;simp at this
    exact⟨by show(i:Int)<((runEnd s [4] i:Nat):Int);omega,by show((runEnd s [4] i:Nat):Int)≤_;omega⟩
  ·rename_i hc4;rw[if_neg hc4];split at h
   ·rename_i hc;rw[if_pos hc];split at h
    ·simp at h
    ·rename_i hk;rw[if_neg hk];split at h
     ·simp at h
     ·rename_i hk2;rw[if_neg hk2];obtain⟨b1,b2⟩:=indexAny_lt' [34,10] (s.extract (i+1) s.size).data.toList
      have hk0:0≤Lib.indexAny (s.extract (i+1) s.size).data.toList [34,10]:=by
       (have:¬Lib.indexAny (s.extract (i+1) s.size).data.toList [34,10]<0:=λhh=>hk (.inl hh));omega
      have b3:=b2 hk0;(have hsz:(s.extract (i+1) s.size).data.toList.length =s.size-(i+1):=by simp);rw[hsz]at b3;exact⟨by show(i:Int)<(i:Int)+_+2;omega,by show(i:Int)+_+2≤_;omega⟩
   ·rename_i hc6;rw[if_neg hc6];split at h
    ·rename_i hc;rw[if_pos hc];split at h
     ·rename_i hp;rw[if_pos hp]
      have hlen:i+2≤s.size:=by
       unfold Lib.hasPrefix at hp;have:=(List.isPrefixOf_iff_prefix.1 hp).length_le;rw[Lib.extract_data]at this;simp at this;omega
      exact⟨by show(i:Int)<(i:Int)+2;omega,by show(i:Int)+2≤_;omega⟩
     ·rename_i hp;rw[if_neg hp];split at h
      ·simp at h
      ·rename_i h7;rw[if_neg h7];exact⟨by show(i:Int)<(i:Int)+1;omega,by show(i:Int)+1≤_;omega⟩
    ·rename_i hc7;rw[if_neg hc7];split at h
     ·rename_i hc;rw[if_pos hc];exact⟨by show(i:Int)<(i:Int)+1;omega,by show(i:Int)+1≤_;omega⟩
     ·simp at h
end Go.Proofs.YtimmfbnjndndlaaGreatDoor
