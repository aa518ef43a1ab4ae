/- Texts V6. -/
import Derived.Test.YtonmdbdopchkaaaGreatDoorM33
import Derived.Test.YtonmdbdopchkaaaGreatDoorM32
set_option linter.all false
namespace Go.Proofs.YtonmdbdopchkaaaGreatDoor
open Go.RowKit
set_option maxHeartbeats 8000000
set_option maxRecDepth 100000
theorem zPP(Z:zD)(n:zB)(cs:List Value)(w:World)(hn:zd Z w cs n)(hk:n.kids=[]):
  Calls Tryz.prog 97 #[.agg cs.toArray] w λe w'=>e= .returned (.bool (decide (n.fact=0∧n.cuts=[])))∧Below w.heap.size w w':=by
 obtain⟨vc,vk,rfl,hf,hc,hkk⟩:=hn;obtain⟨⟨A,cap,rfl,-,-,hl,-⟩,-⟩:=hc;obtain⟨⟨AK,capK,rfl,-,-,hlK,-⟩,-⟩:=hkk;have e1:((n.kids.length:Int)==0)=true:=by rw[hk];rfl
 by_cases h2:n.cuts=[]
 ·have e2:((n.cuts.length:Int)==0)=true:=by rw[h2];rfl
  by_cases h3:n.fact=0
  ·(have e3:(n.fact==(0:Int))=true:=by simp[h3]);have HE:=hid (show decide (n.fact=0∧n.cuts=[])=true from decide_eq_true ⟨h3,h2⟩);clear hk h2 h3;(go_enter Tryz.func97,Tryz.ntmps97);go_wp2;go_ret;exact⟨zI HE.out.symm,zE w _⟩
  ·(have e3:(n.fact==(0:Int))=false:=by simp[h3]);have HE:=hid (show decide (n.fact=0∧n.cuts=[])=false from decide_eq_false λh=>h3 h.1);clear hk h2 h3;(go_enter Tryz.func97,Tryz.ntmps97);go_wp2;go_ret;exact⟨zI HE.out.symm,zE w _⟩
 ·have e2:((n.cuts.length:Int)==0)=false:=by
   (have:n.cuts.length≠0:=λe=>h2 (List.eq_nil_of_length_eq_zero e));simp;omega
  have HE:=hid (show decide (n.fact=0∧n.cuts=[])=false from decide_eq_false λh=>h2 h.2);clear hk h2;go_enter Tryz.func97,Tryz.ntmps97
  go_wp2;go_ret;exact⟨zI HE.out.symm,zE w _⟩
theorem Tryz.eStr:zCV Tryz.prog 9 1 16:=zE5 (z:= .string ⟨#[]⟩) (by kernel_rfl) rfl (by decide)
theorem Tryz.egRTested:∀args w,(callFunc 40 args).run Tryz.prog w= .ok (.enter 40 args) w:=enters_of Tryz.func40 (by kernel_rfl) rfl
def zAh(ks:List ByteArray)(n:ByteArray):List ByteArray:=if ks.any (λk=>decide (k=n))=true then ks else ks++[n]
def zDx(f:Fm)(l:List ByteArray):List ByteArray:=(zAC f).foldl zAh l
theorem zJc(f:Fm):(zDx f []).length =zBo f:=rfl
theorem zTF{l:List ByteArray}{s:ByteArray}{k:Nat}(hk:k<l.length)(h:(l.take k).any (λk=>decide (k=s))=false)(e:l[k]≠s):(l.take (k+1)).any (λk=>decide (k=s))=false:=by
 rw[List.take_succ_eq_append_getElem hk,List.any_append,h];simp[e]
theorem zUh{l:List ByteArray}{s:ByteArray}{k:Nat}(hk:k<l.length)(e:l[k]=s):l.any (λk=>decide (k=s))=true:=by
 rw[List.any_eq_true];exact⟨l[k],List.getElem_mem hk,by simp[e]⟩
theorem zRx(l:List ByteArray)(n:ByteArray):l.length≤(zAh l n).length ∧(zAh l n).length ≤l.length+1:=by
 unfold zAh;split<;>simp
theorem zGj:∀(ns l:List ByteArray),l.length≤(ns.foldl zAh l).length ∧(ns.foldl zAh l).length ≤l.length+ns.length
 |[],l=>by simp
 |a::ns,l=>by
  have h1:=zRx l a;have h2:=zGj ns (zAh l a);rw[List.foldl_cons,List.length_cons];omega
mutual
theorem zRy:∀f:Fm,(zAC f).length ≤zJ f
 | .mk op n cm nu kids=>by
  have:=zEl kids;rw[zAC,zJ,List.length_append];split<;>simp<;>omega
theorem zEl:∀l:List Fm,(zS l).length ≤zX l
 |[]=>by simp[zS,zX]
 |k::r=>by
  have h1:=zRy k;have h2:=zEl r;rw[zS,zX,List.length_append];omega
end
theorem zRz(v:Value)(l:List ByteArray)(s:ByteArray)(base:Nat)(w:World)(ho:w.ownsRow base 9 1 v l.length (l.map .string))(hl:l.length≤1000000):
  Calls Tryz.prog 89 #[v,.string s] w λe w'=>e= .returned (.bool (l.any λk=>decide (k=s)))∧w=w':=by
 obtain⟨OA,ocap,rfl,hoc,hom,hor⟩:=Row.of_own ho (by decide);have zOb:=hid hor;clear ho hor;go_enter Tryz.func89,Tryz.ntmps89
 go_wp2;go_loop[5] (λix=>∃j:Nat,j≤l.length∧ix= .int .i64 j∧Hid ((l.take j).any (λk=>decide (k=s))=false)) (λix=>l.length-(intOf ix).toNat);case atStart=>exact⟨0,Nat.zero_le _,rfl,hid (by simp)⟩
 case round=>
  obtain⟨j,hj,rfl,hnm⟩:=hrel;by_cases hlt:j<l.length
  ·obtain⟨ob,ooff,rfl,-,hoc⟩:=zOb.out (by intro e;have:=congrArg List.length e;simp at this;subst this;simp at hlt);have c0:w.cell? ⟨ob,ooff+j,none⟩=some (.string l[j]):=hoc j _ (by rw[List.getElem?_map,List.getElem?_eq_getElem hlt];rfl);have cl:=lt_of_cell c0;(have hj1:((j:Nat):Int)<(l.length:Int):=by omega);(have hj0:(0:Int)≤((j:Nat):Int):=by omega);by_cases he:l[j]=s
   ·(have e1:(l[j].toList ==s.toList)=true:=by rw[zAq];simp[he]);have HE:=hid (zUh hlt he);clear he hnm hoc;generalize l[j]=y at*;go_wp2;go_ret;exact⟨zI HE.out.symm,rfl⟩
   ·(have e1:(l[j].toList ==s.toList)=false:=by rw[zAq];simp[he]);have HN2:=hid (zTF hlt hnm.out he);clear he hnm hoc;generalize l[j]=y at*;go_wp2;go_round;(case rel=>exact⟨j+1,by omega,by go_num,HN2⟩);case measure=>simp[intOf];omega
  ·(obtain rfl:j=l.length:=by omega);have HE:=hid (show(l.any λk=>decide (k=s))=false from by have:=hnm.out;rwa[List.take_length]at this);clear hnm;go_wp2;go_ret;exact⟨zI HE.out.symm,rfl⟩
theorem zNR:∀(m:Nat)(f:Fm),zJ f≤m->∀(Z:zD)(cs:List Value)(v:Value)(l:List ByteArray)(w:World),FmR Z w f cs->(∀b,Z b->v.ownBlock≠some b∧b<w.heap.size)->l.length+zJ f≤1000000->w.ownsRow 0 9 1 v l.length (l.map .string)->
  Calls Tryz.prog 40 #[.agg cs.toArray,v] w λe w'=>∃v',e= .returned v'∧w'.ownsRow 0 9 1 v' (zDx f l).length ((zDx f l).map .string)∧zA (λb=>v.ownBlock≠some b) w w'∧(∀b,v'.ownBlock=some b->v.ownBlock=some b∨w.heap.size≤b):=by
 intro m
 induction m with
 |zero=>intro f hm;have:=zBE f;omega
 |succ m ih=>
 intro f hm Z cs v l w hf hz hlen hown;have eg:=Tryz.egRTested;have IH:=hid ih;clear ih;have hfs:=zBM f
 have HU:=hid (show zDx f l=(zS f.kids).foldl zAh (if f.op=3 then zAh l f.name else l) from by
  cases f with
  |mk op nm cm nu kids=>
   show(zAC (.mk op nm cm nu kids)).foldl zAh l=(zS kids).foldl zAh (if op=3 then zAh l nm else l);rw[zAC,List.foldl_append];by_cases h:op=3
   ·rw[if_pos h,if_pos h];rfl
   ·rw[if_neg h,if_neg h];rfl)
 obtain⟨A,cap,rfl⟩:=FmR.form hf;have hks:zAT (λcs f=>FmR Z w f cs) 5 Z w f.kids A:=by cases f;unfold FmR at hf;obtain⟨_,_,_,_,A',cap',e,_,_,_,h⟩:=hf;injection e with _ e;injection e with _ e;injection e with _ e;injection e with _ e;injection e with e;injection e with e;subst e;exact zt.seq h
 have hkl:f.kids.length≤1000000:=by have:=zA8 f.kids;omega
 have HS:=hid hks;have HM:=hid (And.intro hm (And.intro hlen hfs));have HZ:=hid hz;have HOW:=hid hown;have HVL:=hid (λb(hb:v.ownBlock=some b)=>(hown.lt b hb).2);have HBX:=hid (Blk.new w 24 #[.int .i64 f.op,.string f.name,.int .i64 f.cmp,.int .i64 f.num,.slice A f.kids.length cap]);have HBL:=hid (zE w (.cells #[.int .i64 f.op,.string f.name,.int .i64 f.cmp,.int .i64 f.num,.slice A f.kids.length cap] 24));have hll:l.length≤1000000:=by omega
 clear hf hks hz hlen hown hm hfs;go_enter Tryz.func40,Tryz.ntmps40
 by_cases h3:f.op=3
 ·have e1:(f.op==(3:Int))=true:=by simp[h3]
  have HIN:=hid (λW(hW:zA (λ_=>True) w W)=>zRz v l f.name 0 W (zl HOW.out hW λ_ _=>trivial) hll);by_cases ha:(l.any λk=>decide (k=f.name))=true
  ·have HE0:=hid (HU.out.trans (show _=(zS f.kids).foldl zAh l from by rw[if_pos h3];unfold zAh;rw[if_pos ha]));rw[ha]at HIN;clear ha h3 HU;(go_wp2_with fail);refine(HIN.out _ ((zA.refl _ _).alloc _)).mono ?_;rintro e w1 ⟨rfl,hw1⟩;subst hw1;have HL0:=hid (show l.length≤l.length+1 from Nat.le_succ _);have HST:=hid (And.intro (HOW.out.alloc (.cells #[.int .i64 f.op,.string f.name,.int .i64 f.cmp,.int .i64 f.num,.slice A f.kids.length cap] 24)) (And.intro ((zA.refl (λb=>v.ownBlock≠some b) w).alloc (.cells #[.int .i64 f.op,.string f.name,.int .i64 f.cmp,.int .i64 f.num,.slice A f.kids.length cap] 24)) (And.intro HBX.out (λb(hb:v.ownBlock=some b)=>(Or.inl hb:v.ownBlock=some b∨w.heap.size<b)))));obtain⟨l0,hl0⟩:∃l0,l0=l:=⟨_,rfl⟩;rw[<-hl0]at HST;have HE:=hid (show zDx f l=(zS f.kids).foldl zAh l0 from by rw[hl0];exact HE0.out);clear HE0;have HL0:=hid (show l0.length≤l.length+1 from by rw[hl0];exact Nat.le_succ _);clear hl0;go_wp2;go_loopw[1,5] (λov ix wr=>∃(j:Nat)(v2:Value),j≤f.kids.length∧ix= .int .i64 j∧v2=ov∧wr.ownsRow 0 9 1 v2 ((zS (f.kids.take j)).foldl zAh l0).length (((zS (f.kids.take j)).foldl zAh l0).map .string)∧zA (λb=>v.ownBlock≠some b) w wr∧Blk wr w.heap.size 24 #[.int .i64 f.op,.string f.name,.int .i64 f.cmp,.int .i64 f.num,.slice A f.kids.length cap]∧(∀b,v2.ownBlock=some b->v.ownBlock=some b∨w.heap.size<b)) (λ_ ix _=>f.kids.length-(intOf ix).toNat);case atStart=>exact⟨0,_,Nat.zero_le _,rfl,rfl,HST.out⟩
   case round=>
    obtain⟨j,v2,hj,rfl,rfl,how,hkp,hbx,hob⟩:=hrel;have b4:=hbx.at4;have bl:=hbx.lt;by_cases hlt:j<f.kids.length
    ·obtain⟨gb,goff,gcs,rfl,hzk,hgcs,hfk⟩:=HS.out.at_ hlt;(have hkz:zA Z w wr:=hkp.mono λb _ hb=>(HZ.out b hb).1);have hfk':=FmR.keep hkz _ _ hfk;obtain⟨A',cap',rfl⟩:=FmR.form hfk;have hle:=zAY hlt;obtain⟨c0,c1,c2,c3,c4⟩:=zp (λj' u hu=>hkz.cell (p:=⟨gb,goff+j*5+j',none⟩) hzk (hgcs j' u hu));have gl:=lt_of_cell c0;have htn:=zGj (zS (f.kids.take j)) l0;have htk:=zCx f.kids j hlt;have hts:=zAU f.kids (j+1);have htl:=zAL hlt;have hnl0:=zEl (f.kids.take j)
     have zN:=hid (IH.out f.kids[j] (by have:=HM.out;omega) _ _ v2 ((zS (f.kids.take j)).foldl zAh l0) wr hfk' (λb hb=>⟨λh=>by
      rcases hob b h with h|h
      ·exact(HZ.out b hb).1 h
      ·have:=(HZ.out b hb).2;omega,Nat.lt_of_lt_of_le (HZ.out b hb).2 hkp.size⟩) (by have:=HM.out;have:=HL0.out;omega) how)
     rw[show zDx f.kids[j] ((zS (f.kids.take j)).foldl zAh l0)=(zS (f.kids.take (j+1))).foldl zAh l0 from by rw[htk,List.foldl_append];rfl]at zN;(have hj1:((j:Nat):Int)<(f.kids.length:Int):=by omega);(have hj0:(0:Int)≤((j:Nat):Int):=by omega);have HB:=hid (And.intro hkp (And.intro hbx hob));clear how hgcs hfk hfk' hkz hle htn htk hts htl hnl0 hkp hbx hob;generalize f.kids[j]=g at*;(go_wp2_with fail);refine zN.out.mono ?_;rintro e w6 ⟨v6,rfl,how6,hk6,hf6⟩
     have hne:v2.ownBlock≠some w.heap.size:=λh=>by
      rcases HB.out.2.2 _ h with h|h
      ·have:=HVL.out _ h;omega
      ·omega
     have HN6:=hid (And.intro how6 (And.intro (zA.wide (HB.out.1.mono (λb _ hb=>hb.1) |>.trans (hk6.mono λb _(hb:v.ownBlock≠some b∧b<w.heap.size) h=>by
      rcases HB.out.2.2 _ h with h|h
      ·exact hb.1 h
      ·omega))) (And.intro (HB.out.2.1.keep hk6 hne) (λb(hb:v6.ownBlock=some b)=>by
      rcases hf6 b hb with h|h
      ·exact HB.out.2.2 b h
      ·have:=HB.out.2.1.lt;exact Or.inr (by omega)))))
     clear how6 hk6 hf6 hne;go_wp2;go_roundw;(case rel=>exact⟨j+1,v6,by omega,by go_num,rfl,HN6.out⟩);case measure=>simp[intOf];omega
    ·(obtain rfl:j=f.kids.length:=by omega);rw[List.take_length]at how;have HH:=hid (And.intro how (And.intro hkp hob));clear how hkp hbx hob;go_wp2;go_ret;rw[HE.out];exact⟨_,rfl,HH.out.1,HH.out.2.1,λb hb=>(HH.out.2.2 b hb).imp id Nat.le_of_lt⟩
  ·have ha:(l.any λk=>decide (k=f.name))=false:=Bool.eq_false_iff.2 ha;have HE:=hid (HU.out.trans (show _=(zS f.kids).foldl zAh (l++[f.name]) from by rw[if_pos h3];unfold zAh;rw[if_neg (by rw[ha];decide)]));rw[ha]at HIN;clear ha h3 HU;(go_wp2_with fail);refine(HIN.out _ ((zA.refl _ _).alloc _)).mono ?_;rintro e w1 ⟨rfl,hw1⟩;subst hw1;go_wp2_with(at_builtin;refine zf rfl (.tmp 16) (.tmp 19) _ rfl Tryz.underlying80 Tryz.eStr rfl ((HOW.out.alloc _).alloc _) rfl (news:=[.string f.name]) rfl (one_cell (by simp)) (by simp[Value.oneCell']) (by unfold maxLen;omega) (by omega) (Nat.zero_le _) ?_;intro v5 w5 hown5 hg5 hat5)
   have HST:=hid (show w5.ownsRow 0 9 1 v5 (l++[f.name]).length ((l++[f.name]).map .string)∧zA (λb=>v.ownBlock≠some b) w w5∧Blk w5 w.heap.size 24 #[.int .i64 f.op,.string f.name,.int .i64 f.cmp,.int .i64 f.num,.slice A f.kids.length cap]∧(∀b,v5.ownBlock=some b->v.ownBlock=some b∨w.heap.size<b) from by
    refine⟨by rw[List.length_append,List.length_singleton,List.map_append];exact hown5,(((zA.refl _ _).alloc _).alloc _).grown hg5 (λk hk _ hx=>hx hk),(HBX.out.alloc _).grown hg5 (λh=>by have:=HVL.out _ h;omega),λb hb=> ?_⟩;rcases hat5 with h|h
    ·exact Or.inl (h▸hb)
    ·rw[h]at hb;injection hb with hb;simp at hb
     exact Or.inr (by omega))
   have HL0:=hid (show(l++[f.name]).length ≤l.length+1 from by simp);clear hown5 hg5 hat5;generalize l++[f.name]=l0 at*;go_wp2;go_loopw[1,5] (λov ix wr=>∃(j:Nat)(v2:Value),j≤f.kids.length∧ix= .int .i64 j∧v2=ov∧wr.ownsRow 0 9 1 v2 ((zS (f.kids.take j)).foldl zAh l0).length (((zS (f.kids.take j)).foldl zAh l0).map .string)∧zA (λb=>v.ownBlock≠some b) w wr∧Blk wr w.heap.size 24 #[.int .i64 f.op,.string f.name,.int .i64 f.cmp,.int .i64 f.num,.slice A f.kids.length cap]∧(∀b,v2.ownBlock=some b->v.ownBlock=some b∨w.heap.size<b)) (λ_ ix _=>f.kids.length-(intOf ix).toNat);case atStart=>exact⟨0,_,Nat.zero_le _,rfl,rfl,HST.out⟩
   case round=>
    obtain⟨j,v2,hj,rfl,rfl,how,hkp,hbx,hob⟩:=hrel;have b4:=hbx.at4;have bl:=hbx.lt;by_cases hlt:j<f.kids.length
    ·obtain⟨gb,goff,gcs,rfl,hzk,hgcs,hfk⟩:=HS.out.at_ hlt;(have hkz:zA Z w wr:=hkp.mono λb _ hb=>(HZ.out b hb).1);have hfk':=FmR.keep hkz _ _ hfk;obtain⟨A',cap',rfl⟩:=FmR.form hfk;have hle:=zAY hlt;obtain⟨c0,c1,c2,c3,c4⟩:=zp (λj' u hu=>hkz.cell (p:=⟨gb,goff+j*5+j',none⟩) hzk (hgcs j' u hu));have gl:=lt_of_cell c0;have htn:=zGj (zS (f.kids.take j)) l0;have htk:=zCx f.kids j hlt;have hts:=zAU f.kids (j+1);have htl:=zAL hlt;have hnl0:=zEl (f.kids.take j)
     have zN:=hid (IH.out f.kids[j] (by have:=HM.out;omega) _ _ v2 ((zS (f.kids.take j)).foldl zAh l0) wr hfk' (λb hb=>⟨λh=>by
      rcases hob b h with h|h
      ·exact(HZ.out b hb).1 h
      ·have:=(HZ.out b hb).2;omega,Nat.lt_of_lt_of_le (HZ.out b hb).2 hkp.size⟩) (by have:=HM.out;have:=HL0.out;omega) how)
     rw[show zDx f.kids[j] ((zS (f.kids.take j)).foldl zAh l0)=(zS (f.kids.take (j+1))).foldl zAh l0 from by rw[htk,List.foldl_append];rfl]at zN;(have hj1:((j:Nat):Int)<(f.kids.length:Int):=by omega);(have hj0:(0:Int)≤((j:Nat):Int):=by omega);have HB:=hid (And.intro hkp (And.intro hbx hob));clear how hgcs hfk hfk' hkz hle htn htk hts htl hnl0 hkp hbx hob;generalize f.kids[j]=g at*;(go_wp2_with fail);refine zN.out.mono ?_;rintro e w6 ⟨v6,rfl,how6,hk6,hf6⟩
     have hne:v2.ownBlock≠some w.heap.size:=λh=>by
      rcases HB.out.2.2 _ h with h|h
      ·have:=HVL.out _ h;omega
      ·omega
     have HN6:=hid (And.intro how6 (And.intro (zA.wide (HB.out.1.mono (λb _ hb=>hb.1) |>.trans (hk6.mono λb _(hb:v.ownBlock≠some b∧b<w.heap.size) h=>by
      rcases HB.out.2.2 _ h with h|h
      ·exact hb.1 h
      ·omega))) (And.intro (HB.out.2.1.keep hk6 hne) (λb(hb:v6.ownBlock=some b)=>by
      rcases hf6 b hb with h|h
      ·exact HB.out.2.2 b h
      ·have:=HB.out.2.1.lt;exact Or.inr (by omega)))))
     clear how6 hk6 hf6 hne;go_wp2;go_roundw;(case rel=>exact⟨j+1,v6,by omega,by go_num,rfl,HN6.out⟩);case measure=>simp[intOf];omega
    ·(obtain rfl:j=f.kids.length:=by omega);rw[List.take_length]at how;have HH:=hid (And.intro how (And.intro hkp hob));clear how hkp hbx hob;go_wp2;go_ret;rw[HE.out];exact⟨_,rfl,HH.out.1,HH.out.2.1,λb hb=>(HH.out.2.2 b hb).imp id Nat.le_of_lt⟩
 ·have e1:(f.op==(3:Int))=false:=by simp[h3]
  have HE0:=hid (HU.out.trans (show _=(zS f.kids).foldl zAh l from by rw[if_neg h3]));have HST:=hid (And.intro (HOW.out.alloc (.cells #[.int .i64 f.op,.string f.name,.int .i64 f.cmp,.int .i64 f.num,.slice A f.kids.length cap] 24)) (And.intro ((zA.refl (λb=>v.ownBlock≠some b) w).alloc (.cells #[.int .i64 f.op,.string f.name,.int .i64 f.cmp,.int .i64 f.num,.slice A f.kids.length cap] 24)) (And.intro HBX.out (λb(hb:v.ownBlock=some b)=>(Or.inl hb:v.ownBlock=some b∨w.heap.size<b)))));obtain⟨l0,hl0⟩:∃l0,l0=l:=⟨_,rfl⟩;rw[<-hl0]at HST;have HE:=hid (show zDx f l=(zS f.kids).foldl zAh l0 from by rw[hl0];exact HE0.out);clear HE0;have HL0:=hid (show l0.length≤l.length+1 from by rw[hl0];exact Nat.le_succ _);clear hl0 h3 HU;go_wp2;go_loopw[1,5] (λov ix wr=>∃(j:Nat)(v2:Value),j≤f.kids.length∧ix= .int .i64 j∧v2=ov∧wr.ownsRow 0 9 1 v2 ((zS (f.kids.take j)).foldl zAh l0).length (((zS (f.kids.take j)).foldl zAh l0).map .string)∧zA (λb=>v.ownBlock≠some b) w wr∧Blk wr w.heap.size 24 #[.int .i64 f.op,.string f.name,.int .i64 f.cmp,.int .i64 f.num,.slice A f.kids.length cap]∧(∀b,v2.ownBlock=some b->v.ownBlock=some b∨w.heap.size<b)) (λ_ ix _=>f.kids.length-(intOf ix).toNat);case atStart=>exact⟨0,_,Nat.zero_le _,rfl,rfl,HST.out⟩
  case round=>
   obtain⟨j,v2,hj,rfl,rfl,how,hkp,hbx,hob⟩:=hrel;have b4:=hbx.at4;have bl:=hbx.lt;by_cases hlt:j<f.kids.length
   ·obtain⟨gb,goff,gcs,rfl,hzk,hgcs,hfk⟩:=HS.out.at_ hlt;(have hkz:zA Z w wr:=hkp.mono λb _ hb=>(HZ.out b hb).1);have hfk':=FmR.keep hkz _ _ hfk;obtain⟨A',cap',rfl⟩:=FmR.form hfk;have hle:=zAY hlt;obtain⟨c0,c1,c2,c3,c4⟩:=zp (λj' u hu=>hkz.cell (p:=⟨gb,goff+j*5+j',none⟩) hzk (hgcs j' u hu));have gl:=lt_of_cell c0;have htn:=zGj (zS (f.kids.take j)) l0;have htk:=zCx f.kids j hlt;have hts:=zAU f.kids (j+1);have htl:=zAL hlt;have hnl0:=zEl (f.kids.take j)
    have zN:=hid (IH.out f.kids[j] (by have:=HM.out;omega) _ _ v2 ((zS (f.kids.take j)).foldl zAh l0) wr hfk' (λb hb=>⟨λh=>by
     rcases hob b h with h|h
     ·exact(HZ.out b hb).1 h
     ·have:=(HZ.out b hb).2;omega,Nat.lt_of_lt_of_le (HZ.out b hb).2 hkp.size⟩) (by have:=HM.out;have:=HL0.out;omega) how)
    rw[show zDx f.kids[j] ((zS (f.kids.take j)).foldl zAh l0)=(zS (f.kids.take (j+1))).foldl zAh l0 from by rw[htk,List.foldl_append];rfl]at zN;(have hj1:((j:Nat):Int)<(f.kids.length:Int):=by omega);(have hj0:(0:Int)≤((j:Nat):Int):=by omega);have HB:=hid (And.intro hkp (And.intro hbx hob));clear how hgcs hfk hfk' hkz hle htn htk hts htl hnl0 hkp hbx hob;generalize f.kids[j]=g at*;(go_wp2_with fail);refine zN.out.mono ?_;rintro e w6 ⟨v6,rfl,how6,hk6,hf6⟩
    have hne:v2.ownBlock≠some w.heap.size:=λh=>by
     rcases HB.out.2.2 _ h with h|h
     ·have:=HVL.out _ h;omega
     ·omega
    have HN6:=hid (And.intro how6 (And.intro (zA.wide (HB.out.1.mono (λb _ hb=>hb.1) |>.trans (hk6.mono λb _(hb:v.ownBlock≠some b∧b<w.heap.size) h=>by
     rcases HB.out.2.2 _ h with h|h
     ·exact hb.1 h
     ·omega))) (And.intro (HB.out.2.1.keep hk6 hne) (λb(hb:v6.ownBlock=some b)=>by
     rcases hf6 b hb with h|h
     ·exact HB.out.2.2 b h
     ·have:=HB.out.2.1.lt;exact Or.inr (by omega)))))
    clear how6 hk6 hf6 hne;go_wp2;go_roundw;(case rel=>exact⟨j+1,v6,by omega,by go_num,rfl,HN6.out⟩);case measure=>simp[intOf];omega
   ·(obtain rfl:j=f.kids.length:=by omega);rw[List.take_length]at how;have HH:=hid (And.intro how (And.intro hkp hob));clear how hkp hbx hob;go_wp2;go_ret;rw[HE.out];exact⟨_,rfl,HH.out.1,HH.out.2.1,λb hb=>(HH.out.2.2 b hb).imp id Nat.le_of_lt⟩
end Go.Proofs.YtonmdbdopchkaaaGreatDoor
