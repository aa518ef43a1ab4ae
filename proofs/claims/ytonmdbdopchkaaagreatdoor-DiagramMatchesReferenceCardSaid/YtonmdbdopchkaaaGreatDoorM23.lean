/- Texts W11 W12 W13 PI W14 W15 W16 W17 W19. -/
import Derived.Test.YtonmdbdopchkaaaGreatDoorM19
import Derived.Test.YtonmdbdopchkaaaGreatDoorM5
import Derived.Test.YtonmdbdopchkaaaGreatDoorM13
import Derived.Deep.RegionWith
set_option linter.all false
namespace Go.Proofs.YtonmdbdopchkaaaGreatDoor
open Go.RowKit
set_option maxHeartbeats 4000000
set_option maxRecDepth 100000
theorem zIS{s:ByteArray}{k:Nat}(hk:k<s.size){c:UInt8}:s.data.toList[k]? =some c↔s[k]=c:=by
 rw[zBD hk];simp
theorem zQ3(S:Nat)(s:ByteArray)(i:Nat)(w:World)(h:zAa w S s)(hi:i<s.size)(hs:s.size≤20000)(hc:zP s i=6):
  Calls Tryz.prog 142 #[.pointer (some ⟨S,0,none⟩),.int .i64 (i:Int)] w (zCk s i w):=by
 have hS:=h.lt
 have hn:zAc s i=(if Lib.indexAny (s.extract (i+1) s.size).data.toList [34,10]<0∨(s.extract (i+1) s.size).data.toList[(Lib.indexAny (s.extract (i+1) s.size).data.toList [34,10]).toNat]? =some 10 then(zCU,0,6)
   else if 400<Lib.indexAny (s.extract (i+1) s.size).data.toList [34,10]then(zCU,0,2)
   else(⟨3,i,0,(s.extract (i+1) s.size).extract 0 (Lib.indexAny (s.extract (i+1) s.size).data.toList [34,10]).toNat⟩,i+Lib.indexAny (s.extract (i+1) s.size).data.toList [34,10]+2,0)):=by
  unfold zAc;rw[if_neg (by omega),if_neg (by omega),if_pos hc]
 obtain⟨b1,b2⟩:=zGI [34,10] (s.extract (i+1) s.size).data.toList;have hrs:(s.extract (i+1) s.size).size =s.size-(i+1):=by simp
 have HIA:=hid (λW=>zRB zSQ (by decide) rfl (s.extract (i+1) s.size) (by omega) W);rw[zVb]at HIA;have HN:=hid hn;have H:=hid h;have HC:=hid hc;have s0:=h.1;have HRS:=hid hrs;have hb2:0≤Lib.indexAny (s.extract (i+1) s.size).data.toList [34,10]->(Lib.indexAny (s.extract (i+1) s.size).data.toList [34,10]).toNat <(s.extract (i+1) s.size).size :=by simpa using b2
 have e1:((i:Nat):Int)+1≤s.size:=by omega
 clear hn hc h hrs b2;go_enter Tryz.func142,Tryz.ntmps142
 go_wp2_with fail
 refine(zEe S s i _ (.alloc H.out _) (by omega) (by omega)).mono ?_;rintro e w' ⟨rfl,n,rfl⟩;rw[HC.out];go_wp2_with fail
 refine(HIA.out _).mono ?_;rintro e w3 ⟨rfl,hb3⟩;have tb:Blk w3 w.heap.size 161 #[.int .i64 0,.int .i64 0,.int .i64 0,.string ⟨#[]⟩]:=Blk.below (.drewN (Blk.new w _ _) _) hb3 (by simp);have s3:=(zAa.below (.drewN (.alloc H.out _) _) hb3 (by simp;omega)).1;have t0:=tb.at0;have t1:=tb.at1;have t2:=tb.at2;have t3:=tb.at3;have f0:=tb.frozen 0;have f1:=tb.frozen 1;have f2:=tb.frozen 2;have f3:=tb.frozen 3;have hbel:Below w.heap.size w w3:= .trans (by(repeat(first|exact Below.refl _ _ |assumption|refine below_drewN' ?_ _ |refine Below.drew ?_ |(refine Below.setCell ?_ (by first|exact Nat.le_refl _ |(simp;done)|(simp;omega)|omega) _)|(refine Below.alloc ?_ (by first|exact Nat.le_refl _ |(simp;done)|(simp;omega)|omega) _)))) (hb3.mono (by simp));clear tb hb3 s0;generalize s.extract (i+1) s.size=r at*;generalize hq:Lib.indexAny r.data.toList [34,10]=q at*;clear hq;by_cases hneg:q<0
 ·rw[if_pos (Or.inl hneg)]at HN;have hneg':decide (q<0)=true:=by simpa using hneg
  go_wp2;refine bodyPost_ret (v:= .tuple #[.agg (Tok.cells zCU).toArray,.int .i64 0,.int .i64 6]) (by simp[results,Tryz.results142,go_sem,t0,t1,t2,t3];rfl) rfl (zAe HN.out (by(repeat(first|exact Below.refl _ _ |assumption|refine below_drewN' ?_ _ |refine Below.drew ?_ |(refine Below.setCell ?_ (by first|exact Nat.le_refl _ |(simp;done)|(simp;omega)|omega) _)|(refine Below.alloc ?_ (by first|exact Nat.le_refl _ |(simp;done)|(simp;omega)|omega) _)))))
 ·have hneg':decide (q<0)=false:=by simpa using hneg
  obtain⟨m,rfl⟩:∃m:Nat,q=m:=⟨q.toNat,by omega⟩;have hm:=hb2 (by omega);simp only[Int.toNat_natCast]at hm HN;have hrsz:=HRS.out;have hmI:((m:Nat):Int)<(r.size:Int):=by omega
  clear hb2;by_cases h10:r[m]=10
  ·rw[if_pos (Or.inr ((zIS hm).2 h10))]at HN;(have h10':(((r[m].toNat :Nat):Int)==10)=true:=by rw[h10];rfl);clear h10;go_wp2;refine bodyPost_ret (v:= .tuple #[.agg (Tok.cells zCU).toArray,.int .i64 0,.int .i64 6]) (by simp[results,Tryz.results142,go_sem,t0,t1,t2,t3];rfl) rfl (zAe HN.out (by(repeat(first|exact Below.refl _ _ |assumption|refine below_drewN' ?_ _ |refine Below.drew ?_ |(refine Below.setCell ?_ (by first|exact Nat.le_refl _ |(simp;done)|(simp;omega)|omega) _)|(refine Below.alloc ?_ (by first|exact Nat.le_refl _ |(simp;done)|(simp;omega)|omega) _)))))
  ·rw[if_neg (λhh=>hh.elim (λa=>hneg a) (λa=>h10 ((zIS hm).1 a)))]at HN
   have h10':(((r[m].toNat :Nat):Int)==10)=false:=by
    rw[beq_eq_false_iff_ne];intro e;exact h10 (UInt8.toNat_inj.1 (by have e10:(10:UInt8).toNat =10:=rfl;omega))
   clear h10;by_cases h400:(400:Int)<m
   ·rw[if_pos h400]at HN;go_wp2;refine bodyPost_ret (v:= .tuple #[.agg (Tok.cells zCU).toArray,.int .i64 0,.int .i64 2]) (by simp[results,Tryz.results142,go_sem,t0,t1,t2,t3];rfl) rfl (zAe HN.out (by(repeat(first|exact Below.refl _ _ |assumption|refine below_drewN' ?_ _ |refine Below.drew ?_ |(refine Below.setCell ?_ (by first|exact Nat.le_refl _ |(simp;done)|(simp;omega)|omega) _)|(refine Below.alloc ?_ (by first|exact Nat.le_refl _ |(simp;done)|(simp;omega)|omega) _)))))
   ·rw[if_neg h400]at HN;go_wp2;refine bodyPost_ret (v:= .tuple #[.agg (Tok.cells ⟨3,i,0,r.extract 0 m⟩).toArray,.int .i64 ((i:Int)+m+2),.int .i64 0]) (by simp[results,Tryz.results142,go_sem,t0,t1,t2,t3];rfl) rfl (zAe HN.out (by(repeat(first|exact Below.refl _ _ |assumption|refine below_drewN' ?_ _ |refine Below.drew ?_ |(refine Below.setCell ?_ (by first|exact Nat.le_refl _ |(simp;done)|(simp;omega)|omega) _)|(refine Below.alloc ?_ (by first|exact Nat.le_refl _ |(simp;done)|(simp;omega)|omega) _)))))
theorem zSu(S:Nat)(s:ByteArray)(i:Nat)(w:World)(h:zAa w S s)(hi:i<s.size)(hs:s.size≤20000):
  Calls Tryz.prog 142 #[.pointer (some ⟨S,0,none⟩),.int .i64 (i:Int)] w (zCk s i w):=by
 by_cases h3:zP s i=3
 ·exact zOy S s i w h hi hs h3
 by_cases h4:zP s i=4
 ·exact zQN S s i w h hi hs h4
 by_cases h6:zP s i=6
 ·exact zQ3 S s i w h hi hs h6
 by_cases h7:zP s i=7
 ·exact zMB S s i w h hi hs (.inl h7)
 by_cases h8:zP s i=8
 ·exact zMB S s i w h hi hs (.inr h8)
 by_cases h9:zP s i=9
 ·exact zPC S s i w h hi hs h9
 exact zQQ S s i w h hi hs h3 h4 h6 h7 h8 h9
def zCO(s:ByteArray):Array Value:=#[.string s]++zA4 zEf
theorem zFA(s:ByteArray):(zCO s).size =257:=by simp[zCO,zDr,zGb]
theorem zHt:∀(l:List Value)(k o:Nat)(cs:Array Value),(l.zipIdx k).foldl (λcs x=>cs.setIfInBounds (o+x.2) x.1) cs=zC8 cs l (o+k)
 |[],_,_,_=>rfl
 |v::r,k,o,cs=>by
  simp only[List.zipIdx_cons,List.foldl_cons];rw[zHt r (k+1) o];rfl
theorem Tryz.zc179:Tryz.zeroCells177.size=257:=by kernel_rfl
theorem Tryz.sz179:(Tryz.prog.info? 177).map (·.size)=some 257:=by kernel_rfl
theorem zQ4(s:ByteArray):(Array.foldl (λcs x=>cs.setIfInBounds (1+x.snd) x.fst) (Tryz.zeroCells177.setIfInBounds 0 (Value.string s)) (zA4 zEf).zipIdx 0 256)=zCO s:=by
 have h9:(zA4 zEf).size =256:=by rw[zDr,zGb]
 have e:(zA4 zEf).zipIdx.size =256:=by simp[h9]
 rw[<-e,<-Array.foldl_toList,Array.toList_zipIdx,zHt];apply Array.ext_getElem?;intro j;rw[zFO _ _ _ (by simp[h9])];simp only[Array.length_toList,h9];have hz:=Tryz.zc179;by_cases h0:j=0
 ·subst h0;rw[if_neg (by omega)];simp only[zCO];rw[Array.getElem?_append_left (by simp)];simp[hz]
 ·by_cases h1:j<257
  ·rw[if_pos (by omega)];simp only[zCO];rw[Array.getElem?_append_right (by simp;omega)];simp
  ·rw[if_neg (by omega)];rw[Array.getElem?_eq_none (by simp[hz];omega),Array.getElem?_eq_none (by have:=zFA s;omega)]
theorem zNO(s:ByteArray):(zCO s).all (·.oneCell')=true:=by
 unfold zCO;rw[Array.all_append,zMC];simp[Value.oneCell']
theorem zRd{w:World}{S:Nat}{s:ByteArray}{t:TypeId}(h:Blk w S t (zCO s)):zAa w S s:=by
 refine⟨by rw[h.cell];unfold zCO;rw[Array.getElem?_append_left (by simp)];rfl,λb=> ?_⟩;rw[h.cell];unfold zCO;rw[Array.getElem?_append_right (by simp),zRb];have:=zUD b;simp[this]
def zF7(s:ByteArray):Nat->Nat->List Tok->List Tok × Int × Int
 |0,_,acc=>(acc,0,0)
 |f+1,i,acc=>
  if i<s.size then
   (if(zAc s i).2.2=0∧acc.length=5000 then([],2,i)
    else if(zAc s i).2.2≠0 then([],(zAc s i).2.2,i)
    else zF7 s f (zEY s (zAc s i).2.1.toNat) (acc++[(zAc s i).1]))
  else(acc,0,0)
def zC4(s:ByteArray):List Tok × Int × Int:=if 20000<s.size then([],2,-1)else zF7 s (s.size+1) (zEY s 0) []
theorem zJ0(s:ByteArray):∀f j,j≤s.size->j≤zEX s f j∧zEX s f j≤s.size
 |0,j,h=>⟨Nat.le_refl _,h⟩
 |f+1,j,h=>by
  unfold zEX;split
  ·split
   ·exact⟨h,Nat.le_refl _⟩
   ·have h1:=zPn s h;have h2:=zBf s [1] (i:=j+(zFI s j).toNat) (by omega);have h3:=zJ0 s f _ h2.2.1;exact⟨by omega,h3.2⟩
  ·exact⟨Nat.le_refl _,h⟩
theorem zJ1(s:ByteArray){i:Nat}(h:i≤s.size):i≤zEY s i∧zEY s i≤s.size:=by
 have h2:=zBf s [1] h;have h3:=zJ0 s (s.size+1) _ h2.2.1;unfold zEY;exact⟨by omega,h3.2⟩
theorem zNf{s:ByteArray}{i:Nat}(hi:i<s.size)(h:(zAc s i).2.2=0):(i:Int)<(zAc s i).2.1∧(zAc s i).2.1≤s.size:=by
 unfold zAc at h⊢;split at h
 ·rename_i hc;rw[if_pos hc];split at h
  ·simp at h
  ·rename_i hk;rw[if_neg hk];obtain⟨h1,h2,_,h4⟩:=zBf s [3,4,5] (i:=i) (by omega)
   have:i<zm s [3,4,5] i:=by
    rcases Nat.lt_or_ge i (zm s [3,4,5] i)with h'|h'
    ·exact h'
    ·(have e:zm s [3,4,5] i=i:=by omega);have:=h4 (by omega);rw[e,hc]at this;simp at this
   exact⟨by show(i:Int)<((zm s [3,4,5] i:Nat):Int);omega,by show((zm s [3,4,5] i:Nat):Int)≤_;omega⟩
 ·rename_i hc3;rw[if_neg hc3];split at h
  ·rename_i hc;rw[if_pos hc];split at h
   ·simp at h
   ·rename_i hk;rw[if_neg hk];obtain⟨h1,h2,_,h4⟩:=zBf s [4] (i:=i) (by omega)
    have:i<zm s [4] i:=by
     rcases Nat.lt_or_ge i (zm s [4] i)with h'|h'
     ·exact h'
     ·(have e:zm s [4] i=i:=by omega);have:=h4 (by omega);rw[e,hc]at this;simp at this
    exact⟨by show(i:Int)<((zm s [4] i:Nat):Int);omega,by show((zm s [4] i:Nat):Int)≤_;omega⟩
  ·rename_i hc4;rw[if_neg hc4];split at h
   ·rename_i hc;rw[if_pos hc];split at h
    ·simp at h
    ·rename_i hk;rw[if_neg hk];split at h
     ·simp at h
     ·rename_i hk2;rw[if_neg hk2];obtain⟨b1,b2⟩:=zGI [34,10] (s.extract (i+1) s.size).data.toList
      have hk0:0≤Lib.indexAny (s.extract (i+1) s.size).data.toList [34,10]:=by
       (have:¬Lib.indexAny (s.extract (i+1) s.size).data.toList [34,10]<0:=λhh=>hk (.inl hh));omega
      have b3:=b2 hk0;(have hsz:(s.extract (i+1) s.size).data.toList.length =s.size-(i+1):=by simp);rw[hsz]at b3;exact⟨by show(i:Int)<(i:Int)+_+2;omega,by show(i:Int)+_+2≤_;omega⟩
   ·rename_i hc6;rw[if_neg hc6];split at h
    ·rename_i hc;rw[if_pos hc];split at h
     ·rename_i hp;rw[if_pos hp]
      have hlen:i+2≤s.size:=by
       unfold Lib.hasPrefix at hp;have:=(List.isPrefixOf_iff_prefix.1 hp).length_le;rw[Lib.extract_data]at this;simp at this;omega
      exact⟨by show(i:Int)<(i:Int)+2;omega,by show(i:Int)+2≤_;omega⟩
     ·rename_i hp;rw[if_neg hp];split at h
      ·simp at h
      ·rename_i h7;rw[if_neg h7];exact⟨by show(i:Int)<(i:Int)+1;omega,by show(i:Int)+1≤_;omega⟩
    ·rename_i hc7;rw[if_neg hc7];split at h
     ·rename_i hc;rw[if_pos hc];exact⟨by show(i:Int)<(i:Int)+1;omega,by show(i:Int)+1≤_;omega⟩
     ·simp at h
theorem Tryz.eTok:zCV Tryz.prog 161 4 40:=zE5 (z:= .agg #[.int .i64 0,.int .i64 0,.int .i64 0,.string ⟨#[]⟩]) (by kernel_rfl) rfl (by decide)
def zGA(s:ByteArray)(w:World)(e:Ending)(w':World):Prop:=
 ∃v,e= .returned (.tuple #[v,.int .i64 (zC4 s).2.1,.int .i64 (zC4 s).2.2])∧w'.ownsRow w.heap.size 161 4 v (zC4 s).1.length ((zC4 s).1.flatMap Tok.cells)∧Below w.heap.size w w'
theorem zFt{s:ByteArray}{w w':World}{v:Value}{ts:List Tok}{n e:Int}(h:zC4 s=(ts,n,e))(ho:w'.ownsRow w.heap.size 161 4 v ts.length (ts.flatMap Tok.cells))(hb:Below w.heap.size w w'):
  zGA s w (.returned (.tuple #[v,.int .i64 n,.int .i64 e])) w':=by
 unfold zGA;rw[h];exact⟨v,rfl,ho,hb⟩
theorem zHM(w:World)(base:Nat)(e:TypeId)(size:Nat):w.ownsRow base e size (.slice none 0 0) 0 []:=World.ownsRow_nil w base e size
theorem own_below{w w':World}{base:Nat}{e:TypeId}{size n:Nat}{v:Value}{xs:List Value}(h:w.ownsRow base e size v n xs)(hb:Below w.heap.size w w'):w'.ownsRow base e size v n xs:=
 h.kept (row:=none) ⟨hb.os,hb.tape,hb.output,hb.size,λk hk _=>hb.block k hk⟩ (by cases hv:v.ownBlock<;>simp)
theorem zIT{W:World}{g:Nat}{t:TypeId}{cs:List Value}(h:Blk W g t cs.toArray):∀j u,cs[j]? =some u->W.cell? ⟨g,0+j,none⟩=some u:=λj u hu=>by
 rw[Nat.zero_add,h.cell];simpa using hu
theorem zSv(s:ByteArray)(w:World)(hs:20000<s.size)(hs2:s.size≤140737488355328):
  Calls Tryz.prog 124 #[.string s] w (zGA s w):=by
 have hl:zC4 s=([],2,-1):=by unfold zC4;rw[if_pos hs]
 have HL:=hid hl;clear hl;go_enter Tryz.func124,Tryz.ntmps124
 go_wp2;go_ret3;exact zFt HL.out (zHM _ _ _ _) (Below.refl _ _)
theorem zRe(s:ByteArray)(w:World)(hs:s.size≤20000):
  Calls Tryz.prog 124 #[.string s] w (zGA s w):=by
 have hl:zC4 s=zF7 s (s.size+1) (zEY s 0) []:=by unfold zC4;rw[if_neg (by omega)]
 have HL:=hid hl;have hbd:=zQ4 s;have h256:(zA4 zEf).size =256:=by rw[zDr,zGb]
 have hg0:=zJ1 s (i:=0) (by omega);clear hl;go_enter Tryz.func124,Tryz.ntmps124
 go_wp2_with fail
 refine(zP5 _).mono ?_;rintro e w1 ⟨rfl,hb1⟩;have hw1:=hb1.size;go_wp2_with(refine zg rfl 177 _ _ rfl rfl rfl (Blk.new _ _ _) (by rw[Tryz.zc179,zFA]) (by rw[zFA];exact Tryz.sz179) (zNO s) ?_;intro w2 hb2 hk2 hs2);have hsc:=zRd hb2;have hbel:Below w.heap.size w w2:=hb1.trans ((zA1 (zE w1 _) hk2 (Nat.le_refl _) (by simp)).mono (by omega));clear hbd h256 hb2 hk2 hb1;have hS:w1.heap.size<w2.heap.size:=by rw[hs2];simp
 have hSb:w.heap.size≤w1.heap.size:=hw1;go_wp2_with fail
 refine(zPo w1.heap.size s 0 w2 hsc (by omega) (by omega) (by omega)).mono ?_;rintro e w3 ⟨rfl,hb3⟩;have hsc3:=hsc.below hb3 hS;have hbel3:=zy hbel hb3;clear hsc hbel hb3 hs2;have hSb3:w1.heap.size<w3.heap.size:=hsc3.lt;have HE0:=hid hg0;go_wp2;go_loopw[6,7] (λv i wr=>∃(k f:Nat)(acc:List Tok),k≤s.size∧i= .int .i64 k∧s.size<f+k∧Hid (zF7 s f k acc=zC4 s)∧acc.length≤5000∧wr.ownsRow w3.heap.size 161 4 v acc.length (acc.flatMap Tok.cells)∧zAa wr w1.heap.size s∧Below w3.heap.size w3 wr) (λ_ i _=>s.size+1-(intOf i).toNat)
 case atStart=>
  refine⟨zEY s 0,s.size+1,[],HE0.out.2,rfl,by omega,HL.out.symm,by simp,zHM _ _ _ _,hsc3,.refl _ _⟩
 case round=>
  obtain⟨k,f,acc,hk,rfl,hf,hlex,hacc,hown,hsc,hb⟩:=hrel;clear hsc3;obtain⟨oA,ocap,rfl,-,-,-⟩:=Row.of_own hown (by decide);obtain⟨f,rfl⟩:∃f',f=f'+1:=⟨f-1,by omega⟩;have hlt3:w3.heap.size≤wr.heap.size:=hb.size;by_cases hlt:k<s.size
  ·have hN:=hid (zSu w1.heap.size s k wr hsc hlt (by omega))
   have hex:zC4 s=(if(zAc s k).2.2=0∧acc.length=5000 then([],2,(k:Int))else if(zAc s k).2.2≠0 then([],(zAc s k).2.2,(k:Int))else zF7 s f (zEY s (zAc s k).2.1.toNat) (acc++[(zAc s k).1])):=by
    rw[<-hlex.out,zF7,if_pos hlt]
   have hnb:=zNf hlt;unfold zCk at hN;generalize zAc s k=q at*;obtain⟨⟨kd,ps,nu,tx⟩,en,er⟩:=q;simp only[Tok.cells]at hN hex hnb;have HX:=hid hex;have HNB:=hid hnb;clear hex hnb;(go_wp2_with fail);refine hN.out.mono ?_;rintro e w4 ⟨rfl,hb4⟩;have hsc4:=hsc.below hb4 hsc.lt;have hown4:=own_below hown hb4;have hbl4:Below w3.heap.size w3 w4:=zy hb hb4;have hlt4:=hbl4.size;have H4:=hid (And.intro hsc4 (And.intro hown4 hbl4));clear hsc hown hb hb4 hN hown4 hbl4 hsc4;by_cases h0:er=0
   ·subst h0;by_cases hfull:acc.length=5000
    ·(have hl5:(((acc.length:Nat):Int)==5000)=true:=by simp;omega);have hx:=HX.out;rw[if_pos ⟨rfl,hfull⟩]at hx;have HX2:=hid hx;clear hx hfull;go_wp2;go_ret3;exact zFt HX2.out (zHM _ _ _ _) (hbel3.trans ((H4.out.2.2.alloc hlt4 _).mono (by omega)))
    ·(have hl5:(((acc.length:Nat):Int)==5000)=false:=by simp;omega);have hx:=HX.out;rw[if_neg (λh=>hfull h.2),if_neg (by simp)]at hx;have HX2:=hid hx;have hnb:=HNB.out rfl;have hgb:=zJ1 s (i:=en.toNat) (by omega);have HG:=hid hgb;obtain⟨m,rfl⟩:∃m:Nat,en=m:=⟨en.toNat,by omega⟩;simp only[Int.toNat_natCast]at hgb hnb;have hlt4':w3.heap.size≤w4.heap.size:=hlt4;clear hx;go_wp2_with(at_builtin;refine zf rfl (.tmp 41) (.tmp 43) _ rfl Tryz.underlying157 Tryz.eTok rfl ((H4.out.2.1.alloc _).alloc _) rfl (news:=[.int .i64 kd,.int .i64 ps,.int .i64 nu,.string tx]) rfl (zIT (zJt _ _ _ _)) (by simp[Value.oneCell']) (by unfold maxLen;omega) (by omega) (by simp;omega) ?_;intro v1 w5 hown5 hg5 hat5);have hb5:Below w3.heap.size w3 w5:=zx ((H4.out.2.2.alloc hlt4 _).alloc (by simp;omega) _) ((H4.out.2.1.alloc _).alloc _) hg5 (by simp;omega) (Nat.le_refl _)
     have hsc5:zAa w5 w1.heap.size s:=by
      have hsc:=(H4.out.1.alloc (.cells #[.int .i64 kd,.int .i64 ps,.int .i64 nu,.string tx] 161)).alloc (.cells #[.int .i64 kd,.int .i64 ps,.int .i64 nu,.string tx] 161);have hbb:Below w3.heap.size _ w5:=zx (.refl _ _) ((H4.out.2.1.alloc _).alloc _) hg5 (by simp;omega) (Nat.le_refl _);exact hsc.below hbb hSb3
     have HH:=hid (And.intro hown5 (And.intro hb5 hsc5));clear hown5 hg5 hat5 hb5 hsc5;(go_wp2_with fail);refine(zPo w1.heap.size s m w5 HH.out.2.2 (by omega) (by omega) (by omega)).mono ?_;rintro e w6 ⟨rfl,hb6⟩;go_wp2;go_roundw
     case rel=>
      refine⟨zEY s m,f,acc++[⟨kd,ps,nu,tx⟩],by omega,by simp,by omega,(by have:=HX2.out;rw[Int.toNat_natCast]at this;exact this.symm),by simp;omega,?_,HH.out.2.2.below hb6 HH.out.2.2.lt,zy HH.out.2.1 hb6⟩;have:=own_below HH.out.1 hb6;simpa[Tok.cells]using this
     case measure=>simp[intOf];omega
   ·have hx:=HX.out;rw[if_neg (λh=>h0 h.1),if_pos h0]at hx;have HX2:=hid hx;(have h0':(er==(0:Int))=false:=by simp[h0]);(have h0'':(er !=(0:Int))=true:=by simp[h0]);clear hx h0;go_wp2;go_ret3;exact zFt HX2.out (zHM _ _ _ _) (hbel3.trans ((H4.out.2.2.alloc hlt4 _).mono (by omega)))
  ·(have hx:zC4 s=(acc,0,0):=by rw[<-hlex.out,zF7,if_neg hlt]);have HX:=hid hx;clear hx;go_wp2;go_ret3;exact zFt HX.out (zH5 hown (by omega)) (hbel3.trans (hb.mono (by omega)))
theorem zUF(s:ByteArray)(w:World)(hs:s.size≤140737488355328):Calls Tryz.prog 124 #[.string s] w (zGA s w):=by
 by_cases h:s.size≤20000
 ·exact zRe s w h
 ·exact zSv s w (by omega) hs
def zD9(s:ByteArray):Bool:=match zC4 s with
 |([t],0,_)=>t.kind==1&&decide (t.text=s)
 | _=>false
def zJO(s:ByteArray)(t:Tok):Prop:=t.kind=1->∃i k,t.text=s.extract i k∧i<k∧k≤s.size∧k-i≤24∧zP s i=3∧∀j,i≤j->j<k->[3,4,5].contains (zP s j)=true
theorem zQ5{s:ByteArray}{i:Nat}(hi:i<s.size):zJO s (zAc s i).1:=by
 intro hk;unfold zAc at hk⊢;by_cases h3:zP s i=3
 ·rw[if_pos h3]at hk⊢;by_cases hl:24<zm s [3,4,5] i-i
  ·rw[if_pos hl]at hk;simp[zCU]at hk
  ·rw[if_neg hl];obtain⟨h1,h2,h4,h5⟩:=zBf s [3,4,5] (i:=i) (by omega)
   have hlt:i<zm s [3,4,5] i:=by
    rcases Nat.lt_or_ge i (zm s [3,4,5] i)with h'|h'
    ·exact h'
    ·(have e:zm s [3,4,5] i=i:=by omega);have:=h5 (by omega);rw[e,h3]at this;simp at this
   exact⟨i,_,rfl,hlt,h2,by omega,h3,h4⟩
 ·rw[if_neg h3]at hk;exfalso;revert hk
  repeat' split
  all_goals simp[zCU]
theorem zK9{s:ByteArray}:∀f i acc,(∀t∈acc,zJO s t)->∀t∈(zF7 s f i acc).1,zJO s t
 |0,_,acc,h=>h
 |f+1,i,acc,h=>by
  unfold zF7;by_cases hi:i<s.size
  ·rw[if_pos hi];split
   ·simp
   ·split
    ·simp
    ·refine zK9 f _ _ (λt ht=> ?_);rw[List.mem_append]at ht;rcases ht with ht|ht
     ·exact h t ht
     ·simp at ht;rw[ht];exact zQ5 hi
  ·rw[if_neg hi];exact h
theorem zQ6{s:ByteArray}:∀t∈(zC4 s).1,zJO s t:=by
 unfold zC4;split
 ·simp
 ·exact zK9 _ _ _ (by simp)
theorem zJ2{b:UInt8}:[3,4,5].contains (zCE b)=(zv b||zBs b):=by
 have key:∀n:Fin 256,([3,4,5].contains (zCE (UInt8.ofNat n.val)):Bool)=(zv (UInt8.ofNat n.val)||zBs (UInt8.ofNat n.val)):=by decide+kernel
 have:=key ⟨b.toNat,b.toNat_lt⟩;rwa[UInt8.ofNat_toNat]at this
theorem zMG{b:UInt8}:zCE b=3↔zv b=true:=by
 have key:∀n:Fin 256,decide (zCE (UInt8.ofNat n.val)=3)=zv (UInt8.ofNat n.val):=by decide+kernel
 have:=key ⟨b.toNat,b.toNat_lt⟩;rw[UInt8.ofNat_toNat]at this;rw[<-this];simp
theorem zKa{s:ByteArray}:zA7 s.data.toList=true↔0<s.size∧s.size≤24∧zP s 0=3∧∀j,j<s.size->[3,4,5].contains (zP s j)=true:=by
 have hl:s.data.toList.length=s.size:=by simp
 constructor
 ·intro h
  cases hs:s.data.toList with
  |nil=>rw[hs]at h;simp[zA7]at h
  |cons c r=>
   rw[hs]at h hl;unfold zA7 at h;rw[Bool.and_eq_true,Bool.and_eq_true]at h;obtain⟨⟨h1,h2⟩,h3⟩:=h;have h0:0<s.size:=by rw[<-hl];simp
   have e0:s[0]=c:=by
    have:=zBD h0;rw[hs]at this;simpa using this.symm
   refine⟨h0,by rw[<-hl];simpa using h3,by rw[zDL h0,e0];exact zMG.2 h1,λj hj=> ?_⟩;rw[zDL hj,zJ2];have ej:=zBD hj;rw[hs]at ej
   cases j with
   |zero=>simp at ej;rw[<-ej,h1];rfl
   |succ j=>simp at ej;exact(List.all_eq_true.1 h2) _ (List.mem_of_getElem? ej)
 ·rintro⟨h0,h24,h3,h⟩
  cases hs:s.data.toList with
  |nil=>rw[hs]at hl;simp at hl;omega
  |cons c r=>
   have e0:s[0]=c:=by
    have:=zBD h0;rw[hs]at this;simpa using this.symm
   unfold zA7;rw[zDL h0,e0]at h3;rw[Bool.and_eq_true,Bool.and_eq_true];refine⟨⟨zMG.1 h3,?_⟩,?_⟩
   ·rw[List.all_eq_true];intro x hx;obtain⟨j,hj,rfl⟩:=List.getElem_of_mem hx;rw[hs]at hl;(have hj1:j+1<s.size:=by rw[<-hl];simp;omega);have:=h (j+1) hj1;rw[zDL hj1,zJ2]at this;have ej:=zBD hj1;rw[hs]at ej;simp[hj]at ej;rw[ej];exact this
   ·rw[hs]at hl;simp only[decide_eq_true_eq];omega
theorem extract_all(s:ByteArray):s.extract 0 s.size=s:=by
 have:(s.extract 0 s.size).data.toList =s.data.toList:=by
  rw[Lib.extract_data];simp;exact List.take_of_length_le (by simp)
 cases s;rename_i d;have h2:=Array.toList_inj.1 this;cases he:ByteArray.extract ⟨d⟩ 0 (ByteArray.size ⟨d⟩);rw[he]at h2;simpa using h2
theorem zMH(s:ByteArray):zD9 s=zA7 s.data.toList:=by
 rw[Bool.eq_iff_iff];constructor
 ·intro h;have hn:=zQ6 (s:=s);unfold zD9 at h;split at h
  ·rename_i t x heq;rw[Bool.and_eq_true]at h;(have hk:t.kind=1:=by simpa using h.1);(have ht:t.text=s:=by simpa using h.2);obtain⟨i,k,h1,h2,h3,h4,h5,h6⟩:=hn t (by rw[heq];simp) hk;rw[ht]at h1
   have hsz:s.size=k-i:=by
    have:=congrArg ByteArray.size h1;simp at this;omega
   (obtain rfl:i=0:=by omega);(obtain rfl:k=s.size:=by omega);exact zKa.2 ⟨h2,by omega,h5,λj hj=>h6 j (Nat.zero_le _) hj⟩
  ·simp at h
 ·intro h;obtain⟨h0,h24,h3,h⟩:=zKa.1 h;have hr1:zm s [1] 0=0:=zFS (Nat.le_refl _) (by omega) (λj a b=>by omega) (λ_=>by rw[h3];rfl);have hr2:zm s [3,4,5] 0=s.size:=zFS (Nat.zero_le _) (Nat.le_refl _) (λj _ b=>h j b) (λhh=>absurd hh (Nat.lt_irrefl _));have hr3:zm s [1] s.size=s.size:=zFS (Nat.le_refl _) (Nat.le_refl _) (λj a b=>by omega) (λhh=>absurd hh (Nat.lt_irrefl _))
  have hg0:zEY s 0=0:=by
   unfold zEY;rw[hr1,zEX,if_neg (by rw[h3];decide)]
  have hg1:zEY s s.size=s.size:=by
   unfold zEY;rw[hr3,zEX,if_neg (by rw[zFr (Nat.le_refl _)];decide)]
  have hnx:zAc s 0=(⟨1,0,0,s⟩,(s.size:Int),0):=by
   unfold zAc;rw[if_pos h3,hr2,if_neg (by omega),extract_all];rfl
  have hlex:zC4 s=([⟨1,0,0,s⟩],0,0):=by
   unfold zC4;rw[if_neg (by omega),hg0,zF7,if_pos h0,hnx];simp only[List.length_nil,List.nil_append];rw[if_neg (by omega),if_neg (by omega),Int.toNat_natCast,hg1];obtain⟨n,hn⟩:∃n,s.size=n+1:=⟨s.size-1,by omega⟩
   have:∀f acc,zF7 s f s.size acc=(acc,0,0):=by
    intro f acc
    cases f with
    |zero=>rfl
    |succ f=>rw[zF7,if_neg (Nat.lt_irrefl _)]
   rw[this]
  unfold zD9;rw[hlex];simp
theorem zRf{s:ByteArray}(h:(zC4 s).2.1≠0∨(zC4 s).1.length ≠1):zD9 s=false:=by
 unfold zD9;split
 ·rename_i heq;rw[heq]at h;simp at h
 ·rfl
theorem zQ7{s:ByteArray}{t:Tok}{e:Int}(h:zC4 s=([t],0,e)):zD9 s=(t.kind==1&&decide (t.text=s)):=by
 unfold zD9;rw[h];rfl
theorem zL9(s:ByteArray)(w:World)(hs:s.size≤140737488355328):
  Calls Tryz.prog 101 #[.string s] w λe w'=>e= .returned (.bool (zD9 s))∧Below w.heap.size w w':=by
 have HL:=hid (zUF s w hs);have HR:=hid (@zRf s);have HO:=hid (λt e=> @zQ7 s t e);go_enter Tryz.func101,Tryz.ntmps101
 go_wp2_with fail
 refine HL.out.mono ?_;unfold zGA;rintro e w1 ⟨v,rfl,hown,hb⟩;obtain⟨ts,n,ee⟩:∃x,x=zC4 s:=⟨_,rfl⟩;generalize hl:zC4 s=L at*;obtain⟨ts,n,ee⟩:=L;dsimp only at*;obtain⟨A,cap,rfl,hcap,hsm,hown2⟩:=Row.of_own hown (by decide);by_cases hn:n=0
 ·subst hn;by_cases h1:ts.length=1
  ·obtain⟨t,rfl⟩:∃t,ts=[t]:=by
    cases ts with
    |nil=>simp at h1
    |cons t r=>cases r with
     |nil=>exact⟨t,rfl⟩
     |cons _ _=>simp at h1
   have HI:=hid (HO.out _ _ rfl);obtain⟨b,off,rfl,hz,hcs⟩:=hown2 (by simp[Tok.cells]);obtain⟨c0,c1,c2,c3⟩:=zEd (λj u hu=>hcs j u (by simpa[Tok.cells]using hu));clear hcs hl hown2 hown;simp only[List.length_cons,List.length_nil,Nat.zero_add]at*;go_wp2;all_goals(go_ret;exact⟨zI (by rw[HI.out];first|(simp_all;done)|(rw[zAq];simp_all)),hb⟩)
  ·have HI:=hid (HR.out (.inr h1));(have h1':((ts.length:Int)==1)=false:=by simp;omega);clear h1 hl;go_wp2;go_ret;exact⟨zI (by rw[HI.out]),hb⟩
 ·have HI:=hid (HR.out (.inl hn));have hn':(n==0)=false:=by simp[hn]
  clear hl;go_wp2;go_ret;exact⟨zI (by rw[HI.out]),hb⟩
def zGc:List ByteArray:=[⟨#[111,114]⟩,⟨#[97,110,100]⟩,⟨#[110,111,116]⟩,⟨#[116,114,117,101]⟩,⟨#[102,97,108,115,101]⟩]
def zJz(s:ByteArray):Bool:=Lib.containsS zGc s
theorem zUG(s:ByteArray)(w:World):
  Calls Tryz.prog 102 #[.string s] w λe w'=>e= .returned (.bool (zJz s))∧Below w.heap.size w w':=by
 let W:=w.alloc (.cells #[.string ⟨#[111,114]⟩,.string ⟨#[97,110,100]⟩,.string ⟨#[110,111,116]⟩,.string ⟨#[116,114,117,101]⟩,.string ⟨#[102,97,108,115,101]⟩] 9)
 have HC:=hid (Tryz.slices_Contains_string w.heap.size 0 5 5 zGc s W (by decide) (by decide) (λj hj=>by
  have:j<5:=hj
  match j,this with
  |0,_=>simp[W,zGc]
  |1,_=>simp[W,zGc]
  |2,_=>simp[W,zGc]
  |3,_=>simp[W,zGc]
  |4,_=>simp[W,zGc]))
 go_enter Tryz.func102,Tryz.ntmps102
 go_wp2_with fail
 refine HC.out.mono ?_;rintro e w1 ⟨rfl,rfl⟩;go_wp2;go_ret;exact⟨rfl,(Below.refl _ _).alloc (Nat.le_refl _) _⟩
def zBB(f:Fm):Bool:=
 if f.op=3 then decide (f.kids.length=0)&&decide (1≤f.cmp)&&decide (f.cmp≤6)&&zD9 f.name&& !zJz f.name
 else if f.name≠⟨#[]⟩∨f.cmp≠0∨f.num≠0 then false
 else if f.op=1∨f.op=2 then decide (f.kids.length=0)
 else if f.op=4 then decide (f.kids.length=1)
 else(decide (f.op=5)||decide (f.op=6))&&decide (2≤f.kids.length)
theorem zIU{f:Fm}(h:f.op=3):zBB f=(decide (f.kids.length=0)&&decide (1≤f.cmp)&&decide (f.cmp≤6)&&zD9 f.name&& !zJz f.name):=if_pos h
theorem zGL{f:Fm}(h:f.op≠3):zBB f= 
 if f.name≠⟨#[]⟩∨f.cmp≠0∨f.num≠0 then false
 else if f.op=1∨f.op=2 then decide (f.kids.length=0)
 else if f.op=4 then decide (f.kids.length=1)
 else(decide (f.op=5)||decide (f.op=6))&&decide (2≤f.kids.length):=by
 unfold zBB;rw[if_neg h]
theorem zJ3(s:ByteArray):s.toList.isEmpty=decide (s=⟨#[]⟩):=by
 rw[<-zAq];have:(⟨#[]⟩:ByteArray).toList =[]:=by rw[ByteArray.toList_eq]
 rw[this];cases s.toList<;>rfl
theorem zQ8(Z:zD)(f:Fm)(cs:List Value)(w:World)(hf:FmR Z w f cs):
  Calls Tryz.prog 71 #[.agg cs.toArray] w λe w'=>e= .returned (.bool (zBB f))∧Below w.heap.size w w':=by
 have hnm:f.name.size≤140737488355328:=by cases f;unfold FmR at hf;exact hf.2.1
 have hkl:f.kids.length≤4611686018427387904:=by cases f;unfold FmR at hf;obtain⟨_,_,_,_,A,cap,_,_,_,h,_⟩:=hf;simp only[Fm.kids];omega
 obtain⟨A,cap,rfl⟩:=FmR.form hf;clear hf;have HT:=hid (@zIU f);have HU:=hid (@zGL f);have HI:=hid (λw=>zL9 f.name w hnm);by_cases h3:f.op=3
 ·have HF:=hid (HT.out h3);have h3':(f.op==(3:Int))=true:=by simp[h3]
  clear HU HT;generalize f.kids.length=n at*;have hend:∀b,zBB f=b->∀w',Below w.heap.size w w'->(Ending.returned (.bool b)= .returned (.bool (zBB f))∧Below w.heap.size w w'):=λb e w' h=>⟨by rw[e],h⟩
  have HE:=hid hend;clear hend;by_cases h0:n=0
  ·subst h0;by_cases h1:1≤f.cmp
   ·by_cases h2:f.cmp≤6
    ·(go_enter Tryz.func71,Tryz.ntmps71);(go_wp2_with fail);refine(HI.out _).mono ?_;rintro e w1 ⟨rfl,hb1⟩;obtain⟨hce,hfr⟩:=zKU hb1;have hbw:Below w.heap.size w w1:=(zE w _).trans (hb1.mono (by simp));have HK:=hid (zUG f.name w1);cases hid0:zD9 f.name
     ·have HG:=hid (HE.out false (by rw[HF.out,hid0];simp));clear HF HE;go_wp2;go_ret;exact HG.out _ hbw
     ·dsimp only;(go_wp2_with fail);refine HK.out.mono ?_;rintro e w2 ⟨rfl,hb2⟩;have HG:=hid (HE.out (!zJz f.name) (by rw[HF.out,hid0];simp[h1,h2]));go_wp2;go_ret;exact HG.out _ (hbw.trans (hb2.mono hbw.size))
    ·have HG:=hid (HE.out false (by rw[HF.out];simp[h2]));clear HF HE HI;(go_enter Tryz.func71,Tryz.ntmps71);go_wp2;go_ret;exact HG.out _ ((Below.refl _ _).alloc (Nat.le_refl _) _)
   ·have HG:=hid (HE.out false (by rw[HF.out];simp[h1]));clear HF HE HI;(go_enter Tryz.func71,Tryz.ntmps71);go_wp2;go_ret;exact HG.out _ ((Below.refl _ _).alloc (Nat.le_refl _) _)
  ·have HG:=hid (HE.out false (by rw[HF.out];simp[h0]));(have h0':((n:Int)==0)=false:=by simp;omega);clear HF HE HI;(go_enter Tryz.func71,Tryz.ntmps71);go_wp2;go_ret;exact HG.out _ ((Below.refl _ _).alloc (Nat.le_refl _) _)
 ·have HF:=hid (HU.out h3);have h3':(f.op==(3:Int))=false:=by simp[h3]
  clear h3;generalize f.kids.length=n at*;go_enter Tryz.func71,Tryz.ntmps71
  repeat' (first|(go_big_may;fail)|((with_reducible apply zCN);rfl;first|((with_reducible apply zCM);rfl;rfl;rfl;exact zBZ.app;intro bb hbb;(simp only[nr]))|((with_reducible apply zBx);rfl;rfl;rfl;exact zBZ.app;intro bb hbb;(simp only[nr]))|((with_reducible apply zB8);rfl;rfl;rfl;simp only[])|((with_reducible apply zBj);rfl;rfl;(first|exact Or.inl rfl|exact Or.inr rfl);(simp only[nr]))|((with_reducible apply zB7);rfl;rfl;rfl;rfl;exact(by constructor);rfl;(simp only[nr]))|((with_reducible apply zB0);rfl;rfl;rfl;rfl;exact(by constructor);rfl;(simp only[nr]))|((with_reducible apply zBS);rfl;first|((with_reducible apply zAs);rfl;rfl;rfl;exact(by constructor);rfl;rfl;rfl;rfl;(simp only[nr]))|((with_reducible apply zBG);rfl;rfl;rfl;exact(by constructor);rfl;rfl;rfl;rfl;(simp only[nr])))|((with_reducible apply zAb);rfl;rfl;rfl;exact(by constructor);(intro hG;(try simp only[Bool.and_eq_true,Bool.not_eq_true']at hG);(first|subst hG|(obtain⟨h1,h2⟩:=hG;subst h1;subst h2)|(obtain⟨⟨h1,h2⟩,h3⟩:=hG;subst h1;subst h2;subst h3));(try simp only[zA2,zAM,Bool.not_true,Bool.not_false,Bool.true_and,Bool.false_and,Bool.and_self]);go_simp;with_reducible rfl);(simp only[nr]))|((with_reducible apply zB5);rfl;rfl;rfl;all_goals(intro hb;subst hb;(try simp only[zA2,zAM,Bool.not_true,Bool.not_false,Bool.true_and,Bool.false_and,Bool.and_self])))|((with_reducible apply zBR);rfl;rfl;rfl;all_goals(intro hb;(first|subst hb|((try simp only[Bool.and_eq_true,Bool.not_eq_true']at hb);obtain⟨h1,h2⟩:=hb;subst h1;subst h2));(try simp only[zA2,zAM,Bool.not_true,Bool.not_false,Bool.true_and,Bool.false_and,Bool.and_self]))))|((with_reducible apply zB6);rfl;rfl;first|((with_reducible apply zB3);rfl;rfl;rfl;rfl;(simp only[nr]))|((with_reducible apply zB4);rfl;rfl;rfl;rfl;(simp only[nr]))|((with_reducible apply zBF);rfl;rfl;rfl;rfl;rfl;(simp only[nr]))|((with_reducible apply zBQ);rfl;rfl;rfl;rfl;rfl;(simp only[nr])))|go_values|go_guarded|go_step|go_upon|go_back|dsimp only)
  all_goals(go_ret;refine⟨zI ?_,(Below.refl _ _).alloc (Nat.le_refl _) _⟩)
  all_goals
   clear HT HU HI hkl hnm;simp only[Hid]at*;rw[HF];clear HF;simp only[zJ3]at*
   subst_vars
   generalize f.op=op at*;generalize f.cmp=cm at*;generalize f.num=nu at*;by_cases hnn:f.name=⟨#[]⟩<;>simp[hnn]at* <;>repeat' split;(all_goals try simp_all);(all_goals try omega);(all_goals(rw[Bool.eq_iff_iff];simp));all_goals try omega
def zY(ds:List zC)(f:Fm):Int:=
 if zBB f=false then 1 else if f.op≠3 then 0 else if f.num<0∨1000000<f.num then 10 else if zV ds f.name<0 then 7 else 0
def zBN(ds:List zC)(f:Fm):Int:=if zCD f=true then 2 else zq (zY ds) f
theorem zQ9(Z:zD)(B:Nat)(v:Value)(ds:List zC)(f:Fm)(cs:List Value)(w:World)(hf:FmR Z w f cs)(hd:Facts Z w v ds)(hB:One w B v):
  Calls Tryz.prog 70 #[.agg cs.toArray,.pointer (some ⟨B,0,none⟩)] w λe w'=>e= .returned (.int .i64 (zY ds f))∧Below w.heap.size w w':=by
 obtain⟨A,cap,rfl⟩:=FmR.form hf;have HF:=hid (λo=>zQ8 Z f _ (w.alloc o) (FmR.keep (.alloc (.refl _ _) o) _ _ hf));have HI:=hid (λw'(h:Below w.heap.size w w')=>zNJ Z v ds f.name w' (hd.keep (.of_below h)));obtain⟨⟨D,dcap,rfl,-,-,-,-⟩,-⟩:=hd;have hBc:=hB.cell;have hBf:=hB.free;have hBl:=hB.lt;clear hf;go_enter Tryz.func70,Tryz.ntmps70
 go_wp2_with fail
 refine(HF.out _).mono ?_;rintro e w1 ⟨rfl,hb1⟩;obtain⟨hce,hfr⟩:=zKU hb1;have hbw:Below w.heap.size w w1:=(zE w _).trans (hb1.mono (by simp));have HE:=hid (show zY ds f=if zBB f=false then 1 else if f.op≠3 then 0 else if f.num<0∨1000000<f.num then 10 else if zV ds f.name<0 then 7 else 0 from rfl);generalize zBB f=bf at*;have hend:∀b,zY ds f=b->∀w',Below w.heap.size w w'->(Ending.returned (.int .i64 b)= .returned (.int .i64 (zY ds f))∧Below w.heap.size w w'):=λb e w' h=>⟨by rw[e],h⟩
 have HG:=hid hend;clear hend;obtain⟨b1c,b1f⟩:w1.cell? ⟨B,0,none⟩=some (.slice D ds.length dcap)∧B<w1.heap.size:=⟨by rw[hbw.cell hBl];exact hBc,by have:=hbw.size;omega⟩;cases bf
 ·have HK:=hid (HG.out 1 (by rw[HE.out];simp));clear HG HE;dsimp only;go_wp2;go_ret;exact HK.out _ hbw
 ·dsimp only;by_cases h3:f.op=3
  ·by_cases hn:f.num<0∨1000000<f.num
   ·have HK:=hid (HG.out 10 (by rw[HE.out];simp[h3,hn]));clear HG HE;by_cases hn0:f.num<0
    ·go_wp2;go_ret;exact HK.out _ hbw
    ·(have hn1:1000000<f.num:=by omega);go_wp2;go_ret;exact HK.out _ hbw
   ·have HE2:=hid (show zY ds f=if zV ds f.name<0 then 7 else 0 by rw[HE.out];simp[h3,hn]);clear HE;(have hn0:¬f.num<0:=by omega);(have hn1:¬1000000<f.num:=by omega);clear hn;(go_wp2_with fail);refine(HI.out _ hbw).mono ?_;rintro e w2 ⟨rfl,hb2⟩;dsimp only;by_cases hi:zV ds f.name<0
    ·have HK:=hid (HG.out 7 (by rw[HE2.out];simp[hi]));go_wp2;go_ret;exact HK.out _ (hbw.trans (hb2.mono hbw.size))
    ·have HK:=hid (HG.out 0 (by rw[HE2.out];simp[hi]));go_wp2;go_ret;exact HK.out _ (hbw.trans (hb2.mono hbw.size))
  ·have HK:=hid (HG.out 0 (by rw[HE.out];simp[h3]));(have h3':(f.op==(3:Int))=false:=by simp[h3]);clear HG HE;go_wp2;go_ret;exact HK.out _ hbw
theorem zRg(Z:zD)(v:Value)(ds:List zC)(f:Fm)(cs:List Value)(w:World)(hf:FmR Z w f cs)(hd:Facts Z w v ds)(hsz:zJ f≤4000000000000000000)(hz:∀b,Z b->b<w.heap.size):
  Calls Tryz.prog 27 #[.agg cs.toArray,.agg #[v]] w λe w'=>e= .returned (.int .i64 (zBN ds f))∧Below w.heap.size w w':=by
 obtain⟨A,cap,rfl⟩:=FmR.form hf;have hd':=hd;obtain⟨⟨D,dcap,rfl,-,-,-,-⟩,-⟩:=hd;have eg:∀args w,(callFunc 70 args).run Tryz.prog w= .ok (.enter 70 args) w:=enters_of Tryz.func70 (by kernel_rfl) rfl;have hzs:∀W,w.heap.size≤W->∀b,Z b->b<W:=λW h b hb=>Nat.lt_of_lt_of_le (hz b hb) h
 have HL:=hid (λw'(h:Below w.heap.size w w')=>zSN Z f _ w' (FmR.keep (.of_below h) _ _ hf) hsz (hzs _ h.size));have HE:=hid (show zBN ds f=if zCD f=true then 2 else zq (zY ds) f from rfl);let W0:=(w.alloc (.cells #[.int .i64 f.op,.string f.name,.int .i64 f.cmp,.int .i64 f.num,.slice A f.kids.length cap] 24)).alloc (.cells #[.slice D ds.length dcap] 27);have hW0:Below w.heap.size w W0:=((Below.refl _ _).alloc (Nat.le_refl _) _).alloc (by simp) _
 have hone:One W0 (w.heap.size+1) (.slice D ds.length dcap):=by
  have:=One.new (w.alloc (.cells #[.int .i64 f.op,.string f.name,.int .i64 f.cmp,.int .i64 f.num,.slice A f.kids.length cap] 24)) (.slice D ds.length dcap) 27;simp only[World.size_alloc]at this;exact this
 have hWs:W0.heap.size=w.heap.size+2:=by simp[W0]
 have HF:=hid (λw1(hb1:Below W0.heap.size W0 w1)=>zSO 70 #[.pointer (some ⟨w.heap.size+1,0,none⟩)] eg Z (zY ds) w1
  (λx cs W hx hW=>zQ9 Z (w.heap.size+1) _ ds x cs W hx (hd'.keep (.of_below (hW0.trans ((hb1.trans (hW.mono hb1.size)).mono hW0.size)))) (hone.of_block ((hb1.trans (hW.mono hb1.size)).block _ (by omega)))) (zJ f) f (Nat.le_refl _) _ w1 (FmR.keep (.of_below (hW0.trans (hb1.mono hW0.size))) _ _ hf) (.refl _ _))
 clear hf hd';go_enter Tryz.func27,Tryz.ntmps27
 go_wp2_with fail
 refine(HL.out W0 hW0).mono ?_;rintro e w1 ⟨rfl,hb1⟩;dsimp only;have hbw:Below w.heap.size w w1:=hW0.trans (hb1.mono hW0.size);obtain⟨c0,c0f⟩:w1.cell? ⟨w.heap.size+1,0,none⟩=some (.slice D ds.length dcap)∧w.heap.size+1<w1.heap.size:=⟨by rw[hb1.cell (by show w.heap.size+1<W0.heap.size;omega)];exact hone.cell,by have:=hb1.size;omega⟩
 obtain⟨d0,d1,d2,d3,d4⟩:=zp (w:=w1) (b:=w.heap.size) (o:=0) (v0:= .int .i64 f.op) (v1:= .string f.name) (v2:= .int .i64 f.cmp) (v3:= .int .i64 f.num) (v4:= .slice A f.kids.length cap) (λj u hu=>by
  rw[hb1.cell (by show w.heap.size<W0.heap.size;omega)]
  match j,hu with
  |0,h=>simpa[W0]using h
  |1,h=>simpa[W0]using h
  |2,h=>simpa[W0]using h
  |3,h=>simpa[W0]using h
  |4,h=>simpa[W0]using h)
 cases hl:zCD f
 ·have HG:=hid (HF.out w1 hb1);go_wp2_with fail
  refine HG.out.mono ?_;rintro e w2 ⟨rfl,hb2⟩;have HK:=hid (show zq (zY ds) f=zBN ds f by rw[HE.out,hl];simp);go_wp2;go_ret;exact⟨zAD HK.out,hbw.trans (hb2.mono hbw.size)⟩
 ·have HK:=hid (show 2=zBN ds f by rw[HE.out,hl];simp);go_wp2;go_ret;exact⟨zAD HK.out,hbw⟩
def zBa(x cm n:Int):Bool:=
 if cm=1 then x==n else if cm=2 then x !=n else if cm=3 then decide (x<n)else if cm=4 then decide (x≤n)else if cm=5 then decide (n<x)else if cm=6 then decide (n≤x)else false
mutual
def evF(ds:List zC)(c:List Int):Fm->Bool
 | .mk op nm cm nu kids=>if op=3 then zBa (c.getD (zV ds nm).toNat 0) cm nu else if op=4 then !zBb ds c kids else if op=5 then zCK ds c kids else if op=6 then zBb ds c kids else decide (op=1)
def zCK(ds:List zC)(c:List Int):List Fm->Bool
 |[]=>true
 |k::ks=>evF ds c k&&zCK ds c ks
def zBb(ds:List zC)(c:List Int):List Fm->Bool
 |[]=>false
 |k::ks=>evF ds c k||zBb ds c ks
end
theorem zNg(ds:List zC)(c:List Int)(f:Fm):evF ds c f=if f.op=3 then zBa (c.getD (zV ds f.name).toNat 0) f.cmp f.num else if f.op=4 then !zBb ds c f.kids else if f.op=5 then zCK ds c f.kids else if f.op=6 then zBb ds c f.kids else decide (f.op=1):=by
 cases f;rw[evF];rfl
theorem zKA(ds:List zC)(c:List Int):∀l,zBb ds c l=l.any (evF ds c)
 |[]=>by simp[zBb]
 |k::ks=>by simp[zBb,zKA ds c ks]
theorem zKB(ds:List zC)(c:List Int):∀l,zCK ds c l=l.all (evF ds c)
 |[]=>by simp[zCK]
 |k::ks=>by simp[zCK,zKB ds c ks]
theorem zDT{L:Fm->Int}{f:Fm}(h:zq L f=0):L f=0∧z6 L f.kids=0:=by
 rw[zEI]at h;by_cases h0:L f=0
 ·rw[if_pos h0]at h;exact⟨h0,h⟩
 ·rw[if_neg h0]at h;exact absurd h h0
theorem zDs{L:Fm->Int}:∀{l:List Fm},z6 L l=0->∀k(hk:k<l.length),zq L l[k]=0
 |[],_,k,hk=>absurd hk (Nat.not_lt_zero _)
 |a::l,h,k,hk=>by
  rw[z6]at h;by_cases h0:zq L a=0
  ·rw[if_pos h0]at h
   cases k with
   |zero=>exact h0
   |succ k=>exact zDs h k (by simpa using hk)
  ·rw[if_neg h0]at h;exact absurd h h0
theorem zFB{ds:List zC}{f:Fm}(h:zY ds f=0):zBB f=true∧(f.op=3->0≤f.num∧f.num≤1000000∧0≤zV ds f.name):=by
 unfold zY at h;cases hf:zBB f
 ·rw[if_pos hf]at h;omega
 ·refine⟨rfl,λh3=> ?_⟩;rw[if_neg (by simp[hf]),if_neg (by simp[h3])]at h;split at h
  ·omega
  ·split at h
   ·omega
   ·omega
theorem zBw{w W w':World}(h:Below w.heap.size w W)(hb:Below W.heap.size W w'):Below w.heap.size w w':=h.trans (hb.mono h.size)
theorem zKC{Z:zD}{w:World}{f:Fm}{A:Option Addr}{cap:Nat}{a b c d:Value}(h:FmR Z w f [a,b,c,d,.slice A f.kids.length cap]):zAT (λcs f=>FmR Z w f cs) 5 Z w f.kids A∧f.kids.length*56≤140737488355328:=by
 cases f;unfold FmR at h;obtain⟨_,_,_,_,A',cap',e',_,_,hb,h⟩:=h;injection e' with _ e';injection e' with _ e';injection e' with _ e';injection e' with _ e';injection e' with e';injection e' with e';subst e';exact⟨zt.seq h,hb⟩
def zHC(x cm n:Int):Bool:=
 if cm=1 then x==n else if cm=2 then x !=n else if cm=3 then decide (x<n)else if cm=4 then decide (x≤n)else if cm=5 then decide (n<x)else decide (n≤x)
theorem zUH{x cm n:Int}(h1:1≤cm)(h6:cm≤6):zHC x cm n=zBa x cm n:=by
 unfold zHC zBa;have hcc:cm=1∨cm=2∨cm=3∨cm=4∨cm=5∨cm=6:=by omega
 rcases hcc with rfl|rfl|rfl|rfl|rfl|rfl<;>simp
theorem zPH(x cm n:Int)(w:World):Calls Tryz.prog 82 #[.int .i64 x,.int .i64 cm,.int .i64 n] w λe w'=>e= .returned (.bool (zHC x cm n))∧w'=w:=by
 have HE:=hid (show zHC x cm n=_ from rfl);go_enter Tryz.func82,Tryz.ntmps82
 go_wp2;all_goals(go_ret;refine⟨zI ?_,rfl⟩;unfold zHC;simp_all)
def zF8(b:Bool):Int:=if b then 1 else 2
def kn(b:Bool):Fm:= .mk (zF8 b) ⟨#[]⟩ 0 0 []
def knV(b:Bool):Value:= .agg #[.int .i64 (zF8 b),.string ⟨#[]⟩,.int .i64 0,.int .i64 0,.slice none 0 0]
theorem zNh(Z:zD)(w:World)(b:Bool):FmR Z w (kn b) [.int .i64 (zF8 b),.string ⟨#[]⟩,.int .i64 0,.int .i64 0,.slice none 0 0]:=by
 unfold kn FmR;refine⟨by cases b<;>simp[I64,zF8],by decide,by simp[I64],by simp[I64],none,0,rfl,Nat.le_refl _,by decide,by simp,?_⟩;simp[zt]
theorem zMI(b:Bool)(w:World):Calls Tryz.prog 81 #[.bool b] w λe w'=>e= .returned (knV b)∧Below w.heap.size w w':=by
 unfold knV;go_enter Tryz.func81,Tryz.ntmps81
 cases b
 ·go_wp2;refine bodyPost_ret (v:=knV false) (by simp[results,Tryz.results81,go_sem];rfl) rfl ⟨rfl,?_⟩
  (repeat(first|exact Below.refl _ _ |assumption|refine below_drewN' ?_ _ |refine Below.drew ?_ |(refine Below.setCell ?_ (by first|exact Nat.le_refl _ |(simp;done)|(simp;omega)|omega) _)|(refine Below.alloc ?_ (by first|exact Nat.le_refl _ |(simp;done)|(simp;omega)|omega) _)))
 ·go_wp2;refine bodyPost_ret (v:=knV true) (by simp[results,Tryz.results81,go_sem];rfl) rfl ⟨rfl,?_⟩
  (repeat(first|exact Below.refl _ _ |assumption|refine below_drewN' ?_ _ |refine Below.drew ?_ |(refine Below.setCell ?_ (by first|exact Nat.le_refl _ |(simp;done)|(simp;omega)|omega) _)|(refine Below.alloc ?_ (by first|exact Nat.le_refl _ |(simp;done)|(simp;omega)|omega) _)))
end Go.Proofs.YtonmdbdopchkaaaGreatDoor
