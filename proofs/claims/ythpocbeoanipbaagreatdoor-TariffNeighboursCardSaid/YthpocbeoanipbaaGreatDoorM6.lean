/- Texts W6. -/
import Derived.Test.YthpocbeoanipbaaGreatDoorM2
import Derived.Test.YthpocbeoanipbaaGreatDoorM0
import Derived.WalkSpells
import Derived.WalkLawsBesides
import Derived.Deep.QuietTactic
import Derived.BigQuiet
import Derived.Shelf.Abstract
import Derived.Laws.EntriesVeiled
set_option linter.all false
namespace Go.Proofs.YthpocbeoanipbaaGreatDoor
open Go.RowKit Go.Proofs.Tryz
set_option maxHeartbeats 2000000
set_option maxRecDepth 100000
variable{S:Nat}{s:ByteArray}{w:World}
theorem zBI{k:Nat}(a:k<s.size):s.data.toList[k]? =some s[k]:=by
 have b:k<s.data.toList.length:=by simpa using a
 rw[List.getElem?_eq_getElem b];simp;rfl
theorem zCF(B:Nat)(d:Array Int)(g:d.size=256)(s:ByteArray)(D:s.size<=1000)(c:Int)(w:World)(x:Blk w B 139 (zAa d)):
  Calls prog 115 #[.string s,.int .i64 c,.pointer (some ⟨B,0,none⟩)] w λe w'=>e= .returned (.tuple #[])/\Blk w' B 139 (zAa (zBl d s.data.toList c))/\zA (λb=>b≠B) w w':=by
 go_enter func115,ntmps115
 go_wp2;go_loopw[5] (λi wr=>∃k:Nat,k<=s.size/\i= .int .i64 k/\Blk wr B 139 (zAa (zBl d (s.data.toList.take k) c))/\zA (λb=>b≠B) w wr) (λi _=>s.size-(intOf i).toNat);case atStart=>exact⟨0,Nat.zero_le _,rfl,x,.refl _ _⟩
 case round=>
  obtain⟨k,C,rfl,a,j⟩:=hrel;by_cases m:k<s.size
  ·have A:=(s[k]).toNat_lt;have n:(zAa (zBl d (s.data.toList.take k) c)).size =256:=by rw[zEO,zB9,g]
   have f:∃v,wr.cell? ⟨B,s[k].toNat,none⟩=some v:=by
    rw[a.cell];exact⟨_,Array.getElem?_eq_getElem (by omega)⟩
   obtain⟨E,y⟩:=f;have z:=a.frozen (s[k]).toNat;have t:=hid a
   have q:s.data.toList.take (k+1)=s.data.toList.take k++[s[k]]:=by
    rw[List.take_add_one,zBI m];rfl
   have u:=hid q;clear a q n;(have o:((s[k].toNat :Nat):Int)<256:=by omega);go_wp2;go_roundw
   case rel=>
    refine⟨k+1,by omega,by go_num,?_,.setCell j (λ_ h=>h rfl) _⟩;rw[u.out,zOu,<-zTA];exact t.out.set_ _ _
   case measure=>simp[intOf];omega
  ·(obtain rfl:k=s.size:=by omega);go_wp2;go_end0;refine⟨rfl,?_,j⟩;rwa[List.take_of_length_le (by simp)]at a
theorem Tryz.zc176:Tryz.zeroCells139=zAa zDW:=by
 unfold zAa zDW;rw[Array.map_replicate]
 kernel_rfl
theorem Tryz.sz176:(prog.info? 139).map (·.size)=some 256:=by kernel_rfl
theorem zQP(w:World):
  Calls prog 75 #[] w λe w'=>e= .returned (.agg (zAa zFO))/\Bw w w':=by
 have eg:∀c w,(callFunc 115 c).run prog w= .ok (.enter 115 c) w:=enters_of func115 (by kernel_rfl) rfl
 have R:Blk ((w.alloc (.cells Tryz.zeroCells139 139)).alloc (.cells Tryz.zeroCells139 139)) (w.heap.size+1) 139 (zAa zDW):=by
  rw[Tryz.zc176];have:=Blk.new (w.alloc (.cells (zAa zDW) 139)) 139 (zAa zDW);simp only[World.size_alloc]at this;exact this
 have s:Blk ((w.alloc (.cells Tryz.zeroCells139 139)).alloc (.cells Tryz.zeroCells139 139)) w.heap.size 139 (zAa zDW):=by
  rw[Tryz.zc176];exact(Blk.new w _ _).alloc _
 have T:=hid s;clear s;have d:Bw w ((w.alloc (.cells Tryz.zeroCells139 139)).alloc (.cells Tryz.zeroCells139 139)):= .alloc (.alloc (.refl _ _) (Nat.le_refl _) _) (by simp) _;go_enter func75,ntmps75
 go_wp2_with fail
 refine(zCF (w.heap.size+1) zDW (by simp only[zDW,Array.size_replicate]) _ (by decide) 3 _ R).mono ?_;rintro e Z ⟨rfl,t,F⟩;have f:Hid (Blk Z (w.heap.size+1) 139 (zAa zGY)):=t;clear t;go_wp2_with fail
 refine(zCF (w.heap.size+1) zGY (by simp only[zGY,zDW,zB9,Array.size_replicate]) _ (by decide) 4 _ f.out).mono ?_;rintro e w2 ⟨rfl,x,G⟩;have g:Hid (Blk w2 (w.heap.size+1) 139 (zAa zHF)):=x;clear x;go_wp2_with fail
 refine(zCF (w.heap.size+1) zHF (by simp only[zHF,zGY,zDW,zB9,Array.size_replicate]) _ (by decide) 5 _ g.out).mono ?_;rintro e w3 ⟨rfl,y,H⟩;have h:Hid (Blk w3 (w.heap.size+1) 139 (zAa zHy)):=y;clear y;go_wp2_with fail
 refine(zCF (w.heap.size+1) zHy (by simp only[zHy,zHF,zGY,zDW,zB9,Array.size_replicate]) _ (by decide) 1 _ h.out).mono ?_;rintro e w4 ⟨rfl,z,I⟩;have i:Hid (Blk w4 (w.heap.size+1) 139 (zAa zIh)):=z;clear z;go_wp2_with fail
 refine(zCF (w.heap.size+1) zIh (by simp only[zIh,zHy,zHF,zGY,zDW,zB9,Array.size_replicate]) _ (by decide) 2 _ i.out).mono ?_;rintro e w5 ⟨rfl,A,J⟩;have j:Hid (Blk w5 (w.heap.size+1) 139 (zAa zJf)):=A;clear A;go_wp2_with fail
 refine(zCF (w.heap.size+1) zJf (by simp only[zJf,zIh,zHy,zHF,zGY,zDW,zB9,Array.size_replicate]) _ (by decide) 6 _ j.out).mono ?_;rintro e w6 ⟨rfl,B,K⟩;have m:Hid (Blk w6 (w.heap.size+1) 139 (zAa zLX)):=B;clear B;go_wp2_with fail
 refine(zCF (w.heap.size+1) zLX (by simp only[zLX,zJf,zIh,zHy,zHF,zGY,zDW,zB9,Array.size_replicate]) _ (by decide) 7 _ m.out).mono ?_;rintro e w7 ⟨rfl,C,L⟩;have n:Hid (Blk w7 (w.heap.size+1) 139 (zAa zMu)):=C;clear C;go_wp2_with fail
 refine(zCF (w.heap.size+1) zMu (by simp only[zMu,zLX,zJf,zIh,zHy,zHF,zGY,zDW,zB9,Array.size_replicate]) _ (by decide) 8 _ n.out).mono ?_;rintro e w8 ⟨rfl,D,M⟩;have o:Hid (Blk w8 (w.heap.size+1) 139 (zAa zOv)):=D;clear D;go_wp2_with fail
 refine(zCF (w.heap.size+1) zOv (by simp only[zOv,zMu,zLX,zJf,zIh,zHy,zHF,zGY,zDW,zB9,Array.size_replicate]) _ (by decide) 9 _ o.out).mono ?_;rintro e W ⟨rfl,E,N⟩;have Q:Hid (Blk W (w.heap.size+1) 139 (zAa zFO)):=E;clear E;have b:=F.trans (G.trans (H.trans (I.trans (J.trans (K.trans (L.trans (M.trans N)))))));have P:=hid (T.out.keep b (by simp));have q:Bw w W:=d.trans ⟨b.os,b.tape,b.output,b.size,λk Y=>b.block k (by simp;omega) (by omega)⟩;clear F G H I J K L M N f g h i j m n o T b d;have U:(zAa zFO).size =256:=by rw[zEO,zHb]
 have X:(zAa zDW).size =256:=by simp[zEO,zDW]
 have O:=hid U;clear U
 go_wp2_with(first
  |(refine zLz rfl 139 _ rfl rfl Q.out _ underlying139 rfl (by rw[O.out];exact Tryz.sz176) ?_)
  |(refine zZ rfl 139 _ _ rfl rfl rfl P.out (by rw[O.out,X]) (by rw[O.out];exact Tryz.sz176) (zN2 _) ?_;intro aa u a V))
 refine bodyPost_ret (v:= .agg (zAa zFO)) (results_cell_row rfl _ _ w.heap.size 139 (zAa zFO) (0,0) _ rfl u underlying139 rfl (by rw[O.out];exact Tryz.sz176)) rfl ⟨rfl,?_⟩;exact q.trans ⟨a.os,a.tape,a.output,a.size,λk Y=>a.block k (by have:=q.size;omega) (by omega)⟩
def zAd(w:World)(S:Nat)(s:ByteArray):Prop:=w.cell? ⟨S,0,none⟩=some (.string s)/\∀b:UInt8,w.cell? ⟨S,1+b.toNat,none⟩=some (.int .i64 (zCa b))
theorem zAd.lt(h:zAd w S s):S<w.heap.size:=lt_of_cell h.1
theorem zAd.below{B:Nat}{w w':World}(h:zAd w S s)(c:Below B w w')(a:S<B):zAd w' S s:=
 ⟨brd c h.1 a,λb=>(c.cell (p:=⟨S,1+b.toNat,none⟩) a).trans (h.2 b)⟩
theorem zIQ(S:Nat)(s:ByteArray)(i:Int)(w:World)(h:zAd w S s)(hi:0<=i)(g:i<=140737488355328)(f:s.size<=140737488355328):
  Calls prog 117 #[.pointer (some ⟨S,0,none⟩),.int .i64 i] w λe w'=>e= .returned (.int .i64 (zH s i.toNat))/\∃n,w'=w.drewN n:=by
 obtain⟨k,rfl⟩:∃k:Nat,i=k:=⟨i.toNat,by omega⟩;have m:=h.1;by_cases b:k<s.size
 ·have q:=h.2 s[k];have o:=(s[k]).toNat_lt;have d:((s[k].toNat :Nat):Int)<256:=by omega
  have a:=hid (zD6 b);have j:((k:Nat):Int)<(s.size:Int):=by omega
  clear h;generalize zCa s[k]=c at*;go_enter func117,ntmps117
  go_wp2;go_quiet(fail);go_wp2;go_ret;exact⟨zAp (by simp only[Int.toNat_natCast];rw[a.out]),_,rfl⟩
 ·have a:=hid (zGc (s:=s) (i:=k) (by omega));clear h;go_enter func117,ntmps117
  go_wp2;go_ret;exact⟨zAp (by simp only[Int.toNat_natCast];rw[a.out]),0,rfl⟩
end Go.Proofs.YthpocbeoanipbaaGreatDoor
