/- Lemmas. -/
import Derived.Test.YtommaegelgilnaaGreatDoorM5
import Derived.Test.YtommaegelgilnaaGreatDoorM0
import Derived.WalkSpells
import Derived.WalkLawsBesides
import Derived.Laws.EntriesVeiled
set_option linter.all false
namespace Go.Proofs.YtommaegelgilnaaGreatDoor
open Go.RowKit Go.Proofs.Tryz
set_option maxHeartbeats 2000000
set_option maxRecDepth 100000
variable {B S i j k:Nat}{P:Program}{s:ByteArray}{w w':World}
theorem zB0(a:k<s.size):s.data.toList[k]? =some s[k]:=by
 have b:k<s.data.toList.length:=by simpa using a
 rw[List.getElem?_eq_getElem b];simp;rfl
theorem zCO(B:Nat)(cur:Array Int)(f:cur.size=256)(s:ByteArray)(C:s.size<=1000)(c:Int)(w:World)(u:Blk w B 216 (zAw cur)):
  Calls prog 208 #[.string s,.int .i64 c,.pointer (some ⟨B,0,none⟩)] w λe w'=>e= .returned (.tuple #[])/\Blk w' B 216 (zAw (zCI cur s.data.toList c))/\zA (λb=>b≠B) w w':=by
 go_enter func208,ntmps208
 go_wp2;go_loopw[5] (λi wr=>∃k:Nat,k<=s.size/\i= .int .i64 k/\Blk wr B 216 (zAw (zCI cur (s.data.toList.take k) c))/\zA (λb=>b≠B) w wr) (λi _=>s.size-(intOf i).toNat);case atStart=>exact⟨0,Nat.zero_le _,rfl,u,.refl _ _⟩
 case round=>
  obtain⟨k,A,rfl,a,g⟩:=hrel;by_cases j:k<s.size
  ·have z:=(s[k]).toNat_lt;have m:(zAw (zCI cur (s.data.toList.take k) c)).size =256:=by rw[zEV,zBv,f]
   have d:∃v,wr.cell? ⟨B,s[k].toNat,none⟩=some v:=by
    rw[a.cell];exact⟨_,Array.getElem?_eq_getElem (by omega)⟩
   obtain⟨D,x⟩:=d;have y:=a.frozen (s[k]).toNat;have q:=hid a
   have o:s.data.toList.take (k+1)=s.data.toList.take k++[s[k]]:=by
    rw[List.take_add_one,zB0 j];rfl
   have t:=hid o;clear a o m;(have n:((s[k].toNat :Nat):Int)<256:=by omega);go_wp2;go_roundw
   case rel=>
    refine⟨k+1,by omega,by go_num,?_,.setCell g (λ_ h=>h rfl) _⟩;rw[t.out,zOU,<-zSQ];exact q.set_ _ _
   case measure=>simp[intOf];omega
  obtain rfl:k=s.size:=by omega
  go_wp2;go_end0;refine⟨rfl,?_,g⟩;rwa[List.take_of_length_le (by simp)]at a
theorem Tryz.zc176:Tryz.zeroCells216=zAw zDX:=by
 unfold zAw zDX;rw[Array.map_replicate]
 kernel_rfl
theorem Tryz.sz176:(prog.info? 216).map (·.size)=some 256:=by kernel_rfl
theorem zO0(w:World):
  Calls prog 154 #[] w λe w'=>e= .returned (.agg (zAw zFS))/\Bw w w':=by
 have eg:∀c w,(callFunc 208 c).run prog w= .ok (.enter 208 c) w:=enters_of func208 (by kernel_rfl) rfl
 have R:Blk ((w.alloc (.cells Tryz.zeroCells216 216)).alloc (.cells Tryz.zeroCells216 216)) (w.heap.size+1) 216 (zAw zDX):=by
  rw[Tryz.zc176];have:=Blk.new (w.alloc (.cells (zAw zDX) 216)) 216 (zAw zDX);simp only[World.size_alloc]at this;exact this
 have s:Blk ((w.alloc (.cells Tryz.zeroCells216 216)).alloc (.cells Tryz.zeroCells216 216)) w.heap.size 216 (zAw zDX):=by
  rw[Tryz.zc176];exact(Blk.new w _ _).alloc _
 have T:=hid s;clear s;have d:Bw w ((w.alloc (.cells Tryz.zeroCells216 216)).alloc (.cells Tryz.zeroCells216 216)):= .alloc (.alloc (.refl _ _) (Nat.le_refl _) _) (by simp) _;go_enter func154,ntmps154
 go_wp2_with fail
 refine(zCO (w.heap.size+1) zDX (by simp only[zDX,Array.size_replicate]) _ (by decide) 3 _ R).mono ?_;rintro e Z ⟨rfl,t,F⟩;have f:Hid (Blk Z (w.heap.size+1) 216 (zAw zGD)):=t;clear t;go_wp2_with fail
 refine(zCO (w.heap.size+1) zGD (by simp only[zGD,zDX,zBv,Array.size_replicate]) _ (by decide) 4 _ f).mono ?_;rintro e w2 ⟨rfl,x,G⟩;have g:Hid (Blk w2 (w.heap.size+1) 216 (zAw zGo)):=x;clear x;go_wp2_with fail
 refine(zCO (w.heap.size+1) zGo (by simp only[zGo,zGD,zDX,zBv,Array.size_replicate]) _ (by decide) 5 _ g).mono ?_;rintro e w3 ⟨rfl,y,H⟩;have h:Hid (Blk w3 (w.heap.size+1) 216 (zAw zHZ)):=y;clear y;go_wp2_with fail
 refine(zCO (w.heap.size+1) zHZ (by simp only[zHZ,zGo,zGD,zDX,zBv,Array.size_replicate]) _ (by decide) 1 _ h).mono ?_;rintro e w4 ⟨rfl,z,I⟩;have i:Hid (Blk w4 (w.heap.size+1) 216 (zAw zIT)):=z;clear z;go_wp2_with fail
 refine(zCO (w.heap.size+1) zIT (by simp only[zIT,zHZ,zGo,zGD,zDX,zBv,Array.size_replicate]) _ (by decide) 2 _ i).mono ?_;rintro e w5 ⟨rfl,A,J⟩;have j:Hid (Blk w5 (w.heap.size+1) 216 (zAw zJT)):=A;clear A;go_wp2_with fail
 refine(zCO (w.heap.size+1) zJT (by simp only[zJT,zIT,zHZ,zGo,zGD,zDX,zBv,Array.size_replicate]) _ (by decide) 6 _ j).mono ?_;rintro e w6 ⟨rfl,B,K⟩;have m:Hid (Blk w6 (w.heap.size+1) 216 (zAw zKZ)):=B;clear B;go_wp2_with fail
 refine(zCO (w.heap.size+1) zKZ (by simp only[zKZ,zJT,zIT,zHZ,zGo,zGD,zDX,zBv,Array.size_replicate]) _ (by decide) 7 _ m).mono ?_;rintro e w7 ⟨rfl,C,L⟩;have n:Hid (Blk w7 (w.heap.size+1) 216 (zAw zLv)):=C;clear C;go_wp2_with fail
 refine(zCO (w.heap.size+1) zLv (by simp only[zLv,zKZ,zJT,zIT,zHZ,zGo,zGD,zDX,zBv,Array.size_replicate]) _ (by decide) 8 _ n).mono ?_;rintro e w8 ⟨rfl,D,M⟩;have o:Hid (Blk w8 (w.heap.size+1) 216 (zAw zOV)):=D;clear D;go_wp2_with fail
 refine(zCO (w.heap.size+1) zOV (by simp only[zOV,zLv,zKZ,zJT,zIT,zHZ,zGo,zGD,zDX,zBv,Array.size_replicate]) _ (by decide) 9 _ o).mono ?_;rintro e W ⟨rfl,E,N⟩;have Q:Hid (Blk W (w.heap.size+1) 216 (zAw zFS)):=E;clear E;have b:=F.trans (G.trans (H.trans (I.trans (J.trans (K.trans (L.trans (M.trans N)))))));have P:=hid (T.keep b (by simp));have q:Bw w W:=d.trans ⟨b.os,b.tape,b.output,b.size,λk Y=>b.block k (by simp;omega) (by omega)⟩;clear F G H I J K L M N f g h i j m n o T b d;have U:(zAw zFS).size =256:=by rw[zEV,zHK]
 have X:(zAw zDX).size =256:=by simp[zEV,zDX]
 have O:=hid U;clear U
 go_wp2_with(first
  |(refine zDq rfl 216 _ rfl rfl Q _ underlying216 rfl (by rw[O.out];exact Tryz.sz176) ?_)
  |(refine zN rfl 216 _ _ rfl rfl rfl P (by rw[O.out,X]) (by rw[O.out];exact Tryz.sz176) (zMi _) ?_;intro aa u a V))
 refine bodyPost_ret (v:= .agg (zAw zFS)) (results_cell_row rfl _ _ w.heap.size 216 (zAw zFS) (0,0) _ rfl u underlying216 rfl (by rw[O.out];exact Tryz.sz176)) rfl ⟨rfl,?_⟩;exact q.trans ⟨a.os,a.tape,a.output,a.size,λk Y=>a.block k (by have:=q.size;omega) (by omega)⟩
def zBB(w:World)(S:Nat)(s:ByteArray):Prop:=w.cell? ⟨S,0,none⟩=some (.string s)/\∀b:UInt8,w.cell? ⟨S,1+b.toNat,none⟩=some (.int .i64 (zCb b))
theorem zBB.lt(h:zBB w S s):S<w.heap.size:=lt_of_cell h.1
theorem zBB.below(h:zBB w S s)(c:Below B w w')(a:S<B):zBB w' S s:=
 ⟨brd c h.1 a,λb=>(c.cell (p:=⟨S,1+b.toNat,none⟩) a).trans (h.2 b)⟩
theorem zH3(S:Nat)(s:ByteArray)(i:Int)(w:World)(h:zBB w S s)(hi:0<=i)(g:i<=140737488355328)(f:s.size<=140737488355328):
  Calls prog 210 #[.pointer (some ⟨S,0,none⟩),.int .i64 i] w λe w'=>e= .returned (.int .i64 (zL s i.toNat))/\∃n,w'=w.drewN n:=by
 obtain⟨k,rfl⟩:∃k:Nat,i=k:=⟨i.toNat,by omega⟩;have m:=h.1;by_cases b:k<s.size
 ·have q:=h.2 s[k];have o:=(s[k]).toNat_lt;have d:((s[k].toNat :Nat):Int)<256:=by omega
  have a:=hid (zD8 b);have j:((k:Nat):Int)<(s.size:Int):=by omega
  clear h;generalize zCb s[k]=c at*;go_enter func210,ntmps210
  go_wp2;go_quiet(fail);go_wp2;go_ret;exact⟨zAz (by simp only[Int.toNat_natCast];rw[a.out]),_,rfl⟩
 have a:=hid (zGS (s:=s) (i:=k) (by omega));clear h;go_enter func210,ntmps210
 go_wp2;go_ret;exact⟨zAz (by simp only[Int.toNat_natCast];rw[a.out]),0,rfl⟩
theorem zBB.drewN(h:zBB w S s)(n:Nat):zBB (w.drewN n) S s:=⟨h.1,h.2⟩
theorem zIe(Z:zD)(v:Value)(zs:List Int)(x:Int)(w:World)(h:zO Z w v zs):
  Calls prog 238 #[v,.int .i64 x] w λe w'=>e= .returned (.bool (zs.contains x))/\w=w':=by
 have f:zs.length*8<=140737488355328:=by obtain⟨⟨_,_,_,_,_,g,_⟩,_⟩:=h;exact g
 by_cases c:zs=[]
 ·subst c;obtain⟨⟨A,a,rfl,_⟩,_⟩:=h;refine(Tryz.slices_Contains_int_empty A a x w).mono ?_;rintro e w' ⟨rfl,rfl⟩;exact⟨rfl,rfl⟩
 obtain⟨b,d,a,rfl,_,_,_,i⟩:=h.open_ c;refine(Tryz.slices_Contains_int b d zs.length a zs x w (Nat.le_refl _) (by omega) i).mono ?_;rintro e w' ⟨rfl,rfl⟩;exact⟨by rw[List.take_length],rfl⟩
theorem zIf(S:Nat)(s:ByteArray)(i:Int)(Z:zD)(v:Value)(c:List Int)(w:World)(h:zBB w S s)(hi:0<=i)(F:i<=s.size)(C:s.size<=140737488355328)(D:zO Z w v c):
  Calls prog 209 #[.pointer (some ⟨S,0,none⟩),.int .i64 i,v] w λe w'=>e= .returned (.int .i64 (zXO s c i.toNat))/\∃n,w'=w.drewN n:=by
 obtain⟨A,rfl⟩:∃k:Nat,i=k:=⟨i.toNat,by omega⟩;have I:=h.1;have H:=hid h;have B:=hid D;clear h D;go_enter func209,ntmps209
 go_wp2;go_loopw[1] (λi wr=>∃k q:Nat,A<=k/\k<=s.size/\i= .int .i64 k/\Hid (∀j,A<=j->j<k->c.contains (zL s j)=true)/\wr=w.drewN q) (λi _=>s.size-(intOf i).toNat);case atStart=>exact⟨A,0,Nat.le_refl _,by omega,rfl,λj a b=>by omega,rfl⟩
 case round=>
  obtain⟨k,q,u,J,rfl,f,rfl⟩:=hrel;by_cases G:k<s.size
  ·have x:decide ((k:Int)<(s.size:Int))=true:=by simp;omega
   cases m:c.contains (zL s k)with
   |true=>
    have d:=hid m;clear m
    repeat' (first|(go_big_may;first
     |(go_at_call 210;refine(zH3 S s k _ (H.drewN q) (by omega) (by omega) C).mono ?_;rintro e w' ⟨rfl,n,rfl⟩;simp only[Int.toNat_natCast])
     |(go_at_call 238;refine(zIe Z v c (zL s k) _ (B.drewN _)).mono ?_;rintro e w' ⟨rfl,rfl⟩;rw[d.out]))|((with_reducible apply zBU);rfl;first|((with_reducible apply zBT);rfl;rfl;rfl;exact zAn.app;intro E z;(simp only[nr]))|((with_reducible apply zAF);rfl;rfl;rfl;exact(by constructor);(intro g;(try simp only[Bool.and_eq_true,Bool.not_eq_true']at g);(first|subst g|(obtain⟨o,t⟩:=g;subst o;subst t)|(obtain⟨⟨o,t⟩,y⟩:=g;subst o;subst t;subst y));(try simp only[zm,z7,Bool.not_true,Bool.not_false,Bool.true_and,Bool.false_and,Bool.and_self]);go_simp;with_reducible rfl);(simp only[nr])))|((with_reducible apply zAj);rfl;rfl;first|((with_reducible apply zAg);rfl;rfl;rfl;rfl;(simp only[nr]))|((with_reducible apply zAh);rfl;rfl;rfl;rfl;(simp only[nr]))|((with_reducible apply zAR);rfl;rfl;rfl;rfl;rfl;(simp only[nr]))|((with_reducible apply zA7);rfl;rfl;rfl;rfl;rfl;(simp only[nr])))|go_values|go_guarded|go_step|go_upon|go_back|dsimp only)
    go_roundw
    case rel=>exact⟨k+1,q+n,by omega,by omega,by go_num,λj a b=>by
     by_cases e:j=k
     ·subst e;exact d.out
     exact f j a (by omega),by first|rfl|rw[World.drewN_drewN]⟩
    case measure=>simp[intOf];omega
   |false=>
   have d:=hid m;clear m
   repeat' (first|(go_big_may;first
    |(go_at_call 210;refine(zH3 S s k _ (H.drewN q) (by omega) (by omega) C).mono ?_;rintro e w' ⟨rfl,n,rfl⟩;simp only[Int.toNat_natCast])
    |(go_at_call 238;refine(zIe Z v c (zL s k) _ (B.drewN _)).mono ?_;rintro e w' ⟨rfl,rfl⟩;rw[d.out]))|((with_reducible apply zBU);rfl;first|((with_reducible apply zBT);rfl;rfl;rfl;exact zAn.app;intro E z;(simp only[nr]))|((with_reducible apply zAF);rfl;rfl;rfl;exact(by constructor);(intro g;(try simp only[Bool.and_eq_true,Bool.not_eq_true']at g);(first|subst g|(obtain⟨o,t⟩:=g;subst o;subst t)|(obtain⟨⟨o,t⟩,y⟩:=g;subst o;subst t;subst y));(try simp only[zm,z7,Bool.not_true,Bool.not_false,Bool.true_and,Bool.false_and,Bool.and_self]);go_simp;with_reducible rfl);(simp only[nr])))|((with_reducible apply zAj);rfl;rfl;first|((with_reducible apply zAg);rfl;rfl;rfl;rfl;(simp only[nr]))|((with_reducible apply zAh);rfl;rfl;rfl;rfl;(simp only[nr]))|((with_reducible apply zAR);rfl;rfl;rfl;rfl;rfl;(simp only[nr]))|((with_reducible apply zA7);rfl;rfl;rfl;rfl;rfl;(simp only[nr])))|go_values|go_guarded|go_step|go_upon|go_back|dsimp only)
   go_ret;exact⟨zAz (by rw[Int.toNat_natCast,zFs u (by omega) f (λ_=>d)]),q+n,by first|rfl|rw[World.drewN_drewN]⟩
  obtain rfl:k=s.size:=by omega
  have x:decide ((s.size:Int)<(s.size:Int))=false:=by simp
  go_wp2;go_ret;exact⟨zAz (by rw[Int.toNat_natCast,zFs u (Nat.le_refl _) f (λh=>absurd h (Nat.lt_irrefl _))]),q,rfl⟩
theorem zS1(w:World)(zs:List Int)(t:TypeId)(d:zs.length<=1000)(b:∀x∈zs,I64 x):zO (λ_=>True) (w.alloc (.cells (zs.map (.int .i64)).toArray t)) (.slice (some ⟨w.heap.size,0,none⟩) zs.length zs.length) zs:=
 ⟨⟨_,_,rfl,Nat.le_refl _,by omega,by omega,λ_=>⟨w.heap.size,0,rfl,trivial,λj u c=>by
  have a:Blk (w.alloc (.cells (zs.map (.int .i64)).toArray t)) w.heap.size t _:=Blk.new w t _
  rw[a.cell];simpa using c⟩⟩,b⟩
def zFV(s:ByteArray)(j:Nat):Int:=Lib.indexByte (s.extract j s.size).data.toList 10
theorem zPJ(s:ByteArray)(b:j<=s.size): -1<=zFV s j/\zFV s j<=s.size-j:=by
 have h:∀(l:List UInt8)(c:UInt8),-1<=Lib.indexByte l c/\Lib.indexByte l c<=l.length:=by
  intro l c
  induction l with
  |nil=>simp[Lib.indexByte]
  |cons a r ih=>unfold Lib.indexByte;split<;>(try split)<;>simp<;>omega
 have:=h (s.extract j s.size).data.toList 10;unfold zFV;refine⟨this.1,Int.le_trans this.2 ?_⟩;simp;omega
theorem zS2(h:zL s j=2)(a:¬zFV s j<0):1<=zFV s j:=by
 have b:j<s.size:=by
  rcases Nat.lt_or_ge j s.size with d|d
  ·exact d
  rw[zGS d]at h;omega
 unfold zFV at*
 have e:(s.extract j s.size).data.toList =s[j]::(s.extract (j+1) s.size).data.toList :=by
  rw[Lib.extract_data,Lib.extract_data]
  have:s.data.toList.drop j=s[j]::s.data.toList.drop (j+1):=by
   rw[List.drop_eq_getElem_cons (by simpa using b)];congr 1
  simp only[this];have g:s.size-j=(s.size-(j+1))+1:=by omega
  rw[g,List.take_succ_cons]
 rw[e]at a⊢;rw[zD8 b]at h
 have f:(s[j]==10)=false:=by
  rw[beq_eq_false_iff_ne];intro c;rw[c]at h;simp[zCb]at h
 unfold Lib.indexByte at a⊢;rw[f]at a⊢;simp only[Bool.false_eq_true,if_false]at a⊢;split
 ·rename_i h3;rw[if_pos h3]at a;omega
 rename_i h3;rw[if_neg h3]at a;have i:Lib.indexByte (s.extract (j+1) s.size).data.toList 10≠ -1:=by simpa using h3
 omega
def zEb(s:ByteArray):Nat->Nat->Nat
 |0,j=>j
 |f+1,j=>if zL s j=2 then(if zFV s j<0 then s.size else zEb s f (zXO s [1] (j+(zFV s j).toNat)))else j
def zEc(s:ByteArray)(i:Nat):Nat:=zEb s (s.size+1) (zXO s [1] i)
theorem zPK(S:Nat)(s:ByteArray)(i:Int)(w:World)(h:zBB w S s)(hi:0<=i)(P:i<=s.size)(C:s.size<=140737488355328):
  Calls prog 155 #[.pointer (some ⟨S,0,none⟩),.int .i64 i] w λe w'=>e= .returned (.int .i64 (zEc s i.toNat))/\Bw w w':=by
 obtain⟨G,rfl⟩:∃k:Nat,i=k:=⟨i.toNat,by omega⟩;have O:=h.lt;have H:=hid h;clear h;have A:=λ(W:World)(k:Nat)(X:k<=s.size)(d:zBB W S s)=>zIf S s k (λ_=>True) (.slice (some ⟨W.heap.size,0,none⟩) 1 1) [1] (W.alloc (.cells #[.int .i64 1] 3)) (d.below (zG W _) d.lt) (by omega) (by omega) C (zS1 W [1] 3 (by decide) (by simp[I64]));have J:=hid A;clear A;go_enter func155,ntmps155
 go_wp2_with fail
 refine(J _ G (by omega) H).mono ?_;rintro e w1 ⟨rfl,K,rfl⟩;simp only[Int.toNat_natCast];go_wp2;have z:=zCL s [1] (i:=G) (by omega);have v:Bw w ((w.alloc (.cells #[.int .i64 1] 3)).drewN K):=below_drewN' (zG w _) K;go_loopw[1] (λi wr=>∃j f:Nat,j<=s.size/\i= .int .i64 j/\Hid (zEb s f j=zEc s G)/\s.size<f+j/\Bw w wr) (λi _=>s.size+1-(intOf i).toNat);case atStart=>exact⟨_,s.size+1,z.2.1,rfl,rfl,by omega,v⟩
 case round=>
  clear z v;obtain⟨j,f,Q,rfl,E,V,c⟩:=hrel;have d:=H.below c O;have Z:=d.1;have o:=hid d;have I:=hid (λb=>(d.2 b));clear d;obtain⟨f,rfl⟩:∃M,f=M+1:=⟨f-1,by omega⟩;by_cases a:zL s j=2
  ·have R:j<s.size:=by
    rcases Nat.lt_or_ge j s.size with D|D
    ·exact D
    rw[zGS D]at a;omega
   have x:∀W:World,Calls prog 211 #[.string (s.extract j s.size),.int .u8 10] W λe w'=>e= .returned (.int .i64 (zFV s j))/\W=w':=λW=>by
    refine(Tryz.strings_IndexByte (s.extract j s.size) 10 W).mono ?_;rintro e w' ⟨rfl,rfl⟩;exact⟨rfl,rfl⟩
   have q:=hid x;clear x;have F:=zPJ s Q;(have N:((zL s j)==(2:Int))=true:=by simp[a]);have L:=hid a;by_cases g:zFV s j<0
   ·(have t:Hid (zEb s (f+1) j=s.size):=by unfold zEb;rw[if_pos a,if_pos g];rfl);clear a
    go_wp2_with(first
     |(go_at_call 210;refine(zH3 S s j _ o (by omega) (by omega) C).mono ?_;rintro e w' ⟨rfl,n,rfl⟩;simp only[Int.toNat_natCast])
     |(go_at_call 211;refine(q _).mono ?_;rintro e w' ⟨rfl,rfl⟩))
    go_ret;exact⟨zAz (by rw[Int.toNat_natCast,<-E.out,t.out]),below_drewN' c _⟩
   have T:=zS2 a g;obtain⟨m,B⟩:∃m:Nat,zFV s j=m:=⟨(zFV s j).toNat,by omega⟩;(have t:Hid (zEb s (f+1) j=zEb s f (zXO s [1] (j+m))):=by rw[zEb,if_pos a,if_neg g,B,Int.toNat_natCast];rfl);rw[B]at F T g;have u:=hid (λW=>B▸q W);(have y:j+m<=s.size:=by omega);have U:=zCL s [1] y;clear a B q
   go_wp2_with(first
    |(go_at_call 210;refine(zH3 S s j _ o (by omega) (by omega) C).mono ?_;rintro e w' ⟨rfl,n,rfl⟩;simp only[Int.toNat_natCast])
    |(go_at_call 211;refine(u _).mono ?_;rintro e w' ⟨rfl,rfl⟩))
   refine(J _ (j+m) y (o.drewN _)).mono ?_;rintro e w2 ⟨rfl,Y,rfl⟩;simp only[Int.toNat_natCast];go_wp2;go_roundw;(case rel=>exact⟨_,f,U.2.1,rfl,by rw[Hid,<-t.out,E.out],by omega,below_drewN' ((below_drewN' c _).alloc (by simp;exact c.size) _) _⟩);case measure=>simp[intOf];omega
  have N:((zL s j)==(2:Int))=false:=by simp[a]
  have t:Hid (zEb s (f+1) j=j):=by rw[zEb,if_neg a];rfl
  clear a;go_wp2_with(go_at_call 210;refine(zH3 S s j _ o (by omega) (by omega) C).mono ?_;rintro e w' ⟨rfl,n,rfl⟩;simp only[Int.toNat_natCast]);go_ret;exact⟨zAz (by rw[Int.toNat_natCast,<-E.out,t.out]),below_drewN' c _⟩
def zRE:ByteArray:=⟨#[34,10]⟩
theorem zMq(q:ByteArray)(j:∀b∈q.data.toList,b.toNat<128)(w:World):
  Calls prog 242 #[.string q,.int .i32 65533] w λe w'=>e= .returned (.int .i64 (-1))/\Bw w w':=by
 have k:=hid j;clear j;go_enter func242,ntmps242
 go_wp2;go_loopg[5] q.size (λg _ o=>∃i:Nat,i+g=q.size/\o=w.iter q i)
 case atStart=>exact⟨0,by omega,rfl⟩
 case round=>
  obtain⟨i,m,rfl⟩:=hrel
  cases gk with
  |zero=>
   (obtain rfl:i=q.size:=by omega);(have c:=λh=>run_next_end (P:=prog) w q q.size h (by omega));go_wp2;go_ret;exact⟨rfl,(Below.refl _ _).alloc (Nat.le_refl _) _⟩
  |succ g=>
  have f:i<q.size:=by omega
  obtain⟨x,d⟩:∃x:UInt8,q[i]'f=x:=⟨_,rfl⟩;have a:x.toNat<128:=k x (List.mem_of_getElem? (by rw[zB0 f,d]));have c:=λh=>run_next_ascii (P:=prog) w q i h f (by rw[d];exact a)
  rw[d]at c;clear d;have n:(((x.toNat:Nat):Int)==65533)=false:=by rw[beq_eq_false_iff_ne];omega
  go_wp2;go_roundg g
  case measure=>omega
  case rel=>exact⟨i+1,by omega,rfl⟩
theorem zMr(w:World)(c:Int)(s:ByteArray)(a:s.size=0):Calls prog 211 #[.string s,.int .u8 c] w λe w'=>e= .returned (.int .i64 (-1))/\w=w':=by
 refine(Tryz.strings_IndexByte s c w).mono ?_;rintro e w' ⟨rfl,rfl⟩;have:s.data.toList=[]:=List.eq_nil_of_length_eq_zero (by simpa using a);rw[this];exact⟨rfl,rfl⟩
theorem zL4(q:ByteArray)(g:∀b∈q.data.toList,b.toNat<128)(y:q.size=2)(r:Int)(u:128<=r)(C:r<=2147483647)(w:World):
  Calls prog 242 #[.string q,.int .i32 r] w λe w'=>e= .returned (.int .i64 (-1))/\Bw w w':=by
 by_cases he:r=65533
 ·subst he;exact zMq q g w
 have x:(r==65533)=false:=by simpa using he
 have j:¬r<128:=by omega
 cases c:Lib.validRune r with
 |false=>
  have f:=hid c;clear c he g;go_enter func242,ntmps242
  go_wp2_with(go_at_call 262;refine(Tryz.utf8_ValidRune _ _).mono ?_;rintro e w' ⟨rfl,rfl⟩;rw[f.out]);go_ret;exact⟨rfl,Below.refl _ _⟩
 |true=>
 have f:=hid c
 have d:Utf8.valid r=true:=by
  rw[validRune_eq];have:=c;unfold Lib.validRune at this;unfold validRune;simp only[decide_eq_true_eq]at this⊢;exact this
 obtain⟨s,t,n⟩:=encode_facts r d u;have a:=n (by omega);have o:=hid g;clear c he d g n;have h:(Utf8.encode r).size <=9223372036854775807:=by omega
 by_cases v:3<=(Utf8.encode r).size
 ·go_enter func242,ntmps242
  go_wp2_with(go_at_call 262;refine(Tryz.utf8_ValidRune _ _).mono ?_;rintro e w' ⟨rfl,m⟩;subst m;rw[f.out]);go_step3;go_wp2;refine wp_loop_once ?_;have A:¬((Utf8.encode r).size :Int)-1<2:=by omega
  go_wp2;go_ret;exact⟨rfl,Below.refl _ _⟩
 have i:(Utf8.encode r).size =2:=by omega
 have k:1<q.size:=by omega
 have z:1<(Utf8.encode r).size :=by omega
 have D:q[1].toNat <128:=o _ (List.mem_of_getElem? (zB0 k));have E:128<=((Utf8.encode r)[1]).toNat :=by simpa[i]using a
 have B:(((q[1].toNat :Nat):Int)!=(((Utf8.encode r)[1].toNat :Nat):Int))=true:=by
  rw[bne_iff_ne];omega
 clear a v s t h;go_enter func242,ntmps242
 go_wp2_with(go_at_call 262;refine(Tryz.utf8_ValidRune _ _).mono ?_;rintro e w' ⟨rfl,m⟩;subst m;rw[f.out]);go_step3;go_wp2;refine wp_loop_once ?_;go_wp2;go_step3;go_wp2;go_quiet(fail);go_wp2;go_quiet((go_at_call 211;exact zLa (zMr _ _ _ (by simp))));go_wp2;rw[Exit.noGoto_ret];go_wp2
 (try(rw[Exit.noGoto_ret];go_wp2))
 go_ret;exact⟨rfl,below_drewN' (Below.refl _ _) _⟩
theorem zT3{x:UInt8}(h:(x.toNat / 64==2)=true):128<=x.toNat:=by
 have:x.toNat / 64=2:=by simpa using h
 omega
theorem zS3(s:ByteArray)(i:Nat)(h:i<s.size):s.get! i=s[i]:=by
 have:=get_at s i h;simpa using this
theorem zO1(s:ByteArray)(i:Nat)(h:i<s.size)(q:128<=(s[i]).toNat):
  i+(Utf8.decode s i).2<=s.size/\∀j,i<=j->j<i+(Utf8.decode s i).2->∃n:j<s.size,128<=(s[j]).toNat :=by
 have c:∀k,(decide (i+k<s.size)&&(s.get! (i+k)).toNat / 64==2)=true->∃n:i+k<s.size,128<=(s[i+k]).toNat :=by
  intro k v;rw[Bool.and_eq_true]at v;have o:i+k<s.size:=by simpa using v.1
  exact⟨o,zT3 (by rw[<-zS3 s _ o];exact v.2)⟩
 have z:¬(s.get! (i+0)).toNat <128:=by rw[get_at s i h];omega
 unfold Utf8.decode;simp only[z,if_false]
 have d:i+1<=s.size/\∀j,i<=j->j<i+1->∃n:j<s.size,128<=(s[j]).toNat :=
  ⟨h,λj a b=>by
   obtain rfl:j=i:=by omega
   exact⟨h,q⟩⟩
 split
 ·rename_i h1;rw[Bool.and_eq_true]at h1;obtain⟨f,m⟩:=c 1 h1.2
  have w:i+2<=s.size/\∀j,i<=j->j<i+2->∃n:j<s.size,128<=(s[j]).toNat :=
   ⟨f,λj a b=>by
    rcases(by omega:j=i\/j=i+1)with rfl|rfl
    ·exact⟨h,q⟩
    exact⟨f,m⟩⟩
  split
  ·exact w
  exact d
 split
 ·rename_i h1;rw[Bool.and_eq_true,Bool.and_eq_true]at h1;obtain⟨f,m⟩:=c 1 h1.1.2;obtain⟨t,u⟩:=c 2 h1.2
  have e:i+3<=s.size/\∀j,i<=j->j<i+3->∃n:j<s.size,128<=(s[j]).toNat :=
   ⟨t,λj a b=>by
    rcases(by omega:j=i\/j=i+1\/j=i+2)with rfl|rfl|rfl
    ·exact⟨h,q⟩
    ·exact⟨f,m⟩
    exact⟨t,u⟩⟩
  split
  ·exact e
  exact d
 split
 ·rename_i h1;rw[Bool.and_eq_true,Bool.and_eq_true,Bool.and_eq_true]at h1;obtain⟨f,m⟩:=c 1 h1.1.1.2;obtain⟨t,u⟩:=c 2 h1.1.2;obtain⟨x,y⟩:=c 3 h1.2
  have g:i+4<=s.size/\∀j,i<=j->j<i+4->∃n:j<s.size,128<=(s[j]).toNat :=
   ⟨x,λj a b=>by
    rcases(by omega:j=i\/j=i+1\/j=i+2\/j=i+3)with rfl|rfl|rfl|rfl
    ·exact⟨h,q⟩
    ·exact⟨f,m⟩
    ·exact⟨t,u⟩
    exact⟨x,y⟩⟩
  split
  ·exact g
  exact d
 exact d
theorem zKb{l c:List UInt8}:∀(n i:Nat),Lib.NoAny l c i->(∀j,i<=j->j<i+n->∃x,l[j]? =some x/\c.contains x=false)->Lib.NoAny l c (i+n)
 |0,_,h,_=>h
 |n+1,i,h,hx=>by
  obtain⟨x,d,e⟩:=hx i (Nat.le_refl _) (by omega);have:=zKb n (i+1) (h.succ d e) (λj a b=>hx j (by omega) (by omega));rwa[show i+1+n=i+(n+1) from by omega]at this
theorem run_next_at(w:World)(B:Nat)(s:ByteArray)(a:Nat)(ty:TypeId)(b:w.heap[B]? =some (.stringIter s a))(h:a<s.size):
  (Instr.next (.pointer (some ⟨B,0,none⟩)) true ty).run P w=
   .ok (.tuple #[.bool true,.int .i64 a,.int .i32 (Utf8.decode s a).1]) (ChangeMaps.setBlock w B (.stringIter s (a+(Utf8.decode s a).2))):=by
 simp only[Instr.next,getObj,setObj,Sem.run_bind,Sem.run,b,Result.andThen,h,if_true];simp[goInt,ChangeMaps.setBlock]
theorem zKc(w:World)(B:Nat)(s:ByteArray)(a:Nat)(ty:TypeId)(b:w.heap[B]? =some (.stringIter s a))(h:¬a<s.size):
  (Instr.next (.pointer (some ⟨B,0,none⟩)) true ty).run P w= .ok (.tuple #[.bool false]) w:=by
 simp[Instr.next,getObj,Sem.run,b,h]
theorem zL5{o o':Obj}(h:w.heap[B]? =some o):(ChangeMaps.setBlock w B o').heap[B]? =some o'/\zA (λb=>b≠B) w (ChangeMaps.setBlock w B o')/\(ChangeMaps.setBlock w B o').heap.size =w.heap.size:=by
 have a:=(Array.getElem?_eq_some_iff.1 h).1;refine⟨by simp[ChangeMaps.setBlock,a],⟨rfl,rfl,rfl,by simp[ChangeMaps.setBlock],λk _ c=> ?_⟩,by simp[ChangeMaps.setBlock]⟩;simp only[ChangeMaps.setBlock,Array.getElem?_setIfInBounds];rw[if_neg (λe=>c e.symm)]
theorem zL6(q:ByteArray)(U:∀b∈q.data.toList,b.toNat<128)(F:q.size=2)(s:ByteArray)(h8:s.size<=8)(w:World):
  Calls prog 213 #[.string s,.string q] w λe w'=>e= .returned (.int .i64 (Lib.indexAny s.data.toList q.data.toList))/\Bw w w':=by
 have O:=hid U;clear U
 have R:q.toList.isEmpty=false:=by
  rw[ByteArray.toList_eq]
  cases h:q.data.toList with
  |nil=>
   (have T:q.data.toList.length=2:=by simpa using F);rw[h]at T;simp at T
  |cons _ _=>rfl
 have af:((q.size:Int)==1)=false:=beq_eq_false_iff_ne.2 (by omega);have K:decide ((8:Int)<(s.size:Int))=false:=decide_eq_false (by omega);go_enter func213,ntmps213
 go_wp2_with(go_at_call 243;refine(Tryz.strings_shouldUseASCIISet _ _).mono ?_;rintro e w' ⟨rfl,G⟩;rw[G,K]);go_loopg[9,10] s.size (λg _ _ V=>∃i:Nat,i<=s.size/\s.size<=i+g/\Bw w V/\V.heap[w.heap.size]? =some (.stringIter s i)/\Hid (Lib.NoAny s.data.toList q.data.toList i))
 case atStart=>exact⟨0,Nat.zero_le _,Nat.le_add_left _ _,zG w _,World.iter_heap _ _ _,Lib.NoAny.zero _ _⟩
 case round=>
  obtain⟨i,ab,ac,m,z,o⟩:=hrel;by_cases A:i<s.size
  ·obtain⟨g,rfl⟩:∃Y,gk=Y+1:=⟨gk-1,by omega⟩;(have E:=λN=>run_next_at (P:=prog) wr w.heap.size s i N z A);obtain⟨I,X,f3⟩:=zL5 (o':= .stringIter s (i+(Utf8.decode s i).2)) z;have d:Bw w (ChangeMaps.setBlock wr w.heap.size (.stringIter s (i+(Utf8.decode s i).2))):=zAG m X (Nat.le_refl _) m.size;generalize ChangeMaps.setBlock wr w.heap.size (.stringIter s (i+(Utf8.decode s i).2))=w1 at*;have D:w.heap.size<w1.heap.size:=(Array.getElem?_eq_some_iff.1 I).1;by_cases hx:(s[i]).toNat <128
   ·have L:=decode_ascii s i A hx;have v:=congrArg Prod.fst L;have y:=congrArg Prod.snd L;simp only at v y;rw[v]at E;rw[y]at I;have H:s.data.toList[i]? =some s[i]:=zB0 A;have Hx:=hid H;clear H L v y;generalize s[i]=x at*;have c:=Lib.contains_iff_indexByte q.data.toList x;(have k:((x.toNat:Int)).toNat.toUInt8 =x:=by simp);have B:=hid k;clear k
    cases f:q.data.toList.contains x with
    |false=>
     have u:=hid f;rw[f]at c;have ae:¬((0:Int)<=Lib.indexByte q.data.toList x):=of_decide_eq_false c.symm;clear c f;go_wp2_with(go_at_call 242;refine(Tryz.strings_IndexRune_ascii _ _ _ (by omega) (by omega)).mono ?_;rintro e w' ⟨rfl,G⟩;rw[G,B.out]);(go_roundg g);(case measure=>omega);case rel=>exact⟨i+1,by omega,by omega,d,I,o.succ Hx u⟩
    |true=>
    have u:=hid f;rw[f]at c;have aa:(0:Int)<=Lib.indexByte q.data.toList x:=of_decide_eq_true c.symm;clear c f;go_wp2_with(go_at_call 242;refine(Tryz.strings_IndexRune_ascii _ _ _ (by omega) (by omega)).mono ?_;rintro e w' ⟨rfl,G⟩;rw[G,B.out]);go_ret;exact⟨zAz (by rw[Lib.indexAny_hit o Hx u.out]),d⟩
   obtain⟨d1,d2⟩:=decode_high s i A (by omega);have d3:=decode_le s i;obtain⟨W,Q⟩:=zO1 s i A (by omega)
   have t:Lib.NoAny s.data.toList q.data.toList (i+(Utf8.decode s i).2):=zKb _ i o (λj a b=>by
    obtain⟨hj,ad⟩:=Q j a b;refine⟨s[j],zB0 hj,?_⟩
    cases Z:q.data.toList.contains s[j]with
    |false=>rfl
    |true=>
    have:=O s[j] (by simpa using Z)
    omega)
   have J:=hid t;clear t Q o;generalize (Utf8.decode s i).1=r at*;generalize (Utf8.decode s i).2=n at*;(have M:(r:Int)<=2147483647:=by omega);go_wp2_with(go_at_call 242;refine(zL4 q O F _ (by omega) M _).mono ?_;rintro e w2 ⟨rfl,C⟩);(go_roundg g);(case measure=>omega);case rel=>exact⟨i+n,W,by omega,d.trans (C.mono (by omega)),(C.block _ D).trans I,J⟩
  obtain rfl:i=s.size:=by omega
  have E:=λN=>zKc (P:=prog) wr w.heap.size s s.size N z A
  go_wp2;go_ret;exact⟨zAz (by rw[Lib.indexAny_none (by simpa using o.out)]),m⟩
theorem Tryz.zero206(w:World):(zeroValue 287).run prog w= .ok (.agg (Array.replicate 256 (.bool false))) w:=by kernel_rfl
theorem zP9(q:ByteArray)(c:∀b∈q.data.toList,b.toNat<128)(a:q.size=2)(s:ByteArray)(g:s.size<=20000)(w:World):
  Calls prog 213 #[.string s,.string q] w λe w'=>e= .returned (.int .i64 (Lib.indexAny s.data.toList q.data.toList))/\Bw w w':=by
 by_cases d:s.size<=8
 ·exact zL6 q c a s d w
 refine(Tryz.strings_IndexAny_long Tryz.zero206 s q w (by omega) (by omega) (by omega) (by omega) (λj b f=>c b (List.mem_of_getElem? f))).mono ?_;rintro e w' ⟨rfl,rfl⟩;exact⟨rfl,.alloc (.alloc (.refl _ _) (Nat.le_refl _) _) (by simp) _⟩
structure Tok where
 kind:Int
 pos:Int
 num:Int
 text:ByteArray
def Tok.cells(t:Tok):List Value:=[.int .i64 t.kind,.int .i64 t.pos,.int .i64 t.num,.string t.text]
def zCo:Tok:=⟨0,0,0,⟨#[]⟩⟩
def numOf(s:ByteArray):Int:=(Lib.atoi s.data.toList).getD 0
def zBG(s:ByteArray)(i:Nat):Tok × Int × Int:=
 if zL s i=3 then
  (if 24<zXO s [3,4,5] i-i then((zCo,0,2):Tok × Int × Int)else(⟨1,i,0,s.extract i (zXO s [3,4,5] i)⟩,((zXO s [3,4,5] i:Nat):Int),0):Tok × Int × Int)
 else if zL s i=4 then
  (if 13<zXO s [4] i-i\/zL s (zXO s [4] i)=3\/zL s (zXO s [4] i)=5 then(zCo,0,4)else(⟨2,i,numOf (s.extract i (zXO s [4] i)),s.extract i (zXO s [4] i)⟩,zXO s [4] i,0))
 else if zL s i=6 then
  (if Lib.indexAny (s.extract (i+1) s.size).data.toList [34,10]<0\/(s.extract (i+1) s.size).data.toList[(Lib.indexAny (s.extract (i+1) s.size).data.toList [34,10]).toNat]? =some 10 then(zCo,0,6)
   else if 400<Lib.indexAny (s.extract (i+1) s.size).data.toList [34,10]then(zCo,0,2)
   else(⟨3,i,0,(s.extract (i+1) s.size).extract 0 (Lib.indexAny (s.extract (i+1) s.size).data.toList [34,10]).toNat⟩,i+Lib.indexAny (s.extract (i+1) s.size).data.toList [34,10]+2,0))
 else if zL s i=7\/zL s i=8 then
  (if Lib.hasPrefix (s.extract (i+1) s.size).data.toList [61]=true then(⟨4,i,0,s.extract i (i+2)⟩,i+2,0)
   else if zL s i=7 then(zCo,0,3)else(⟨4,i,0,s.extract i (i+1)⟩,i+1,0))
 else if zL s i=9 then(⟨4,i,0,s.extract i (i+1)⟩,i+1,0)
 else(zCo,0,3)
def zDM(s:ByteArray)(i:Nat)(w:World)(e:Ending)(w':World):Prop:=
 e= .returned (.tuple #[.agg (Tok.cells (zBG s i).1).toArray,.int .i64 (zBG s i).2.1,.int .i64 (zBG s i).2.2])/\Bw w w'
theorem zBL{t:Tok}{n e:Int}(h:zBG s i=(t,n,e))(a:Bw w w'):
  zDM s i w (.returned (.tuple #[.agg (Tok.cells t).toArray,.int .i64 n,.int .i64 e])) w':=by
 unfold zDM;rw[h];exact⟨rfl,a⟩
theorem zEu(S:Nat)(s:ByteArray)(i:Nat)(w:World)(h:zBB w S s)(a:i<=140737488355328)(b:s.size<=140737488355328):
  Calls prog 210 #[.pointer (some ⟨S,0,none⟩),.int .i64 (i:Int)] w λe w'=>e= .returned (.int .i64 (zL s i))/\∃n,w'=w.drewN n:=by
 have:=zH3 S s i w h (by omega) (by omega) b;simpa using this
theorem zBB.alloc(h:zBB w S s)(o:Obj):zBB (w.alloc o) S s:=h.below (zG w o) h.lt
theorem zNT{W:World}{t:TypeId}{zs:List Int}(a:Blk W B t (zs.map (.int .i64)).toArray)(d:zs.length<=1000)(b:∀x∈zs,I64 x):zO (λ_=>True) W (.slice (some ⟨B,0,none⟩) zs.length zs.length) zs:=
 ⟨⟨_,_,rfl,Nat.le_refl _,by omega,by omega,λ_=>⟨B,0,rfl,trivial,λj u c=>by rw[a.cell];simpa using c⟩⟩,b⟩
theorem zRF(S:Nat)(s:ByteArray)(i B:Nat)(W:World)(h:zBB W S s)(a:Blk W B 3 #[.int .i64 3,.int .i64 4,.int .i64 5])(b:i<=s.size)(c:s.size<=140737488355328):
  Calls prog 209 #[.pointer (some ⟨S,0,none⟩),.int .i64 (i:Int),.slice (some ⟨B,0,none⟩) 3 3] W λe w'=>e= .returned (.int .i64 (zXO s [3,4,5] i))/\∃n,w'=W.drewN n:=by
 have:=zIf S s i (λ_=>True) _ [3,4,5] W h (by omega) (by omega) c (zNT a (by decide) (by simp[I64]));simpa using this
theorem zT4(S:Nat)(s:ByteArray)(i B:Nat)(W:World)(h:zBB W S s)(a:Blk W B 3 #[.int .i64 4])(b:i<=s.size)(c:s.size<=140737488355328):
  Calls prog 209 #[.pointer (some ⟨S,0,none⟩),.int .i64 (i:Int),.slice (some ⟨B,0,none⟩) 1 1] W λe w'=>e= .returned (.int .i64 (zXO s [4] i))/\∃n,w'=W.drewN n:=by
 have:=zIf S s i (λ_=>True) _ [4] W h (by omega) (by omega) c (zNT a (by decide) (by simp[I64]));simpa using this
theorem zFW(w:World)(o:Obj)(t:TypeId)(cs:Array Value):Blk ((w.alloc o).alloc (.cells cs t)) (w.heap.size+1) t cs:=by
 have:=Blk.new (w.alloc o) t cs;simpa using this
theorem zO2(S:Nat)(s:ByteArray)(i:Nat)(w:World)(h:zBB w S s)(hi:i<s.size)(x:s.size<=20000)(c:zL s i=3):
  Calls prog 156 #[.pointer (some ⟨S,0,none⟩),.int .i64 (i:Int)] w (zDM s i w):=by
 have u:=h.lt;have f:=zCL s [3,4,5] (i:=i) (by omega);have q:=f.1;have t:=f.2.1
 have j:zBG s i=(if 24<zXO s [3,4,5] i-i then((zCo,0,2):Tok × Int × Int)else((⟨1,i,0,s.extract i (zXO s [3,4,5] i)⟩,((zXO s [3,4,5] i:Nat):Int),0):Tok × Int × Int)):=by
  unfold zBG;rw[if_pos c]
 have a:=hid j;have H:=hid h;have m:=hid c;have z:=h.1;have b:=hid (λW B h o=>zRF S s i B W h o (by omega) (by omega));clear f j c h;generalize zXO s [3,4,5] i=k at*;go_enter func156,ntmps156
 go_wp2_with fail
 refine(zEu S s i _ (.alloc H _) (by omega) (by omega)).mono ?_;rintro e w' ⟨rfl,n,rfl⟩;rw[m.out];go_wp2_with fail
 refine(b _ _ (.drewN (.alloc (.alloc H _) _) _) (.drewN (zFW _ _ _ _) _)).mono ?_;rintro e w' ⟨rfl,y,rfl⟩;by_cases g:24<k-i
 ·have d:(24:Int)<(k:Int)-(i:Int):=by omega
  rw[if_pos g]at a;go_wp2;refine bodyPost_ret (v:= .tuple #[.agg (Tok.cells zCo).toArray,.int .i64 0,.int .i64 2]) (by simp[results,results156,go_sem];rfl) rfl (zBL a (by exact blw))
 have d:¬(24:Int)<(k:Int)-(i:Int):=by omega
 rw[if_neg g]at a;go_wp2;refine bodyPost_ret (v:= .tuple #[.agg (Tok.cells ⟨1,i,0,s.extract i k⟩).toArray,.int .i64 (k:Int),.int .i64 0]) (by simp[results,results156,go_sem];rfl) rfl (zBL a (by exact blw))
theorem zPa{a:Addr}{n:Nat}(h:k≠a.block):(w.freeze a n).heap[k]? =w.heap[k]? :=by
 unfold World.freeze;split
 ·rfl
 simp only[Array.getElem?_modify];rw[if_neg (λe=>h e.symm)]
theorem below_bytesWorld(w:World)(e:TypeId)(t:ByteArray):Bw w (Lib.bytesWorld w e t):=by
 unfold Lib.bytesWorld;refine⟨?_,?_,?_,?_,λk a=> ?_⟩
 ·unfold World.freeze;split<;>rfl
 ·unfold World.freeze;split<;>rfl
 ·unfold World.freeze;split<;>rfl
 ·unfold World.freeze;split<;>simp
 rw[zPa (by simp;omega),Below.heap_alloc _ _ _ (by simpa using a)];rfl
theorem zH4:∀(l:List UInt8)(a:Nat),(∀b∈l,48<=b.toNat/\b.toNat<=57)->∃v,Lib.decFrom a l=some v
 |[],a,_=>⟨a,rfl⟩
 |b::r,a,h=>by
  obtain⟨v,c⟩:=zH4 r (a*10+(b.toNat-48)) (λx d=>h x (List.mem_cons_of_mem _ d));refine⟨v,?_⟩;unfold Lib.decFrom Lib.digitVal;rw[if_pos (h b (List.mem_cons_self ..))];exact c
theorem zO3{l:List UInt8}(c:l≠[])(h:∀b∈l,48<=b.toNat/\b.toNat<=57):Lib.atoi l=some ((Lib.atoi l).getD 0):=by
 cases l with
 |nil=>exact absurd rfl c
 |cons b r=>
 have a:=h b (List.mem_cons_self ..);obtain⟨v,g⟩:=zH4 (b::r) 0 h;have d:(b==45)=false:=by rw[beq_eq_false_iff_ne];intro e;rw[e]at a;simp at a
 have f:(b==43)=false:=by rw[beq_eq_false_iff_ne];intro e;rw[e]at a;simp at a
 unfold Lib.atoi;simp only[d,f,Bool.false_eq_true,if_false];unfold Lib.decNat;simp[g]
theorem zRG(x:ByteArray)(c:x.size<=18)(a:x.data.toList≠[])(h:∀b∈x.data.toList,48<=b.toNat/\b.toNat<=57)(W:World):
  Calls prog 212 #[.string x] W λe w'=>e= .returned (.tuple #[.int .i64 (numOf x),.nilIface])/\Bw W w':=by
 refine(Tryz.strconv_Atoi x (numOf x) c (zO3 a h) W).mono ?_;rintro e w' ⟨rfl,t,rfl⟩;exact⟨rfl,below_bytesWorld _ _ _⟩
theorem zMs{b:UInt8}(h:zCb b=4):48<=b.toNat/\b.toNat<=57:=by
 unfold zCb at h;split at h
 ·omega
 split at h
 ·assumption
 repeat(split at h; · omega)
 omega
theorem zPb(hi:i<=s.size):∀b∈(s.extract i (zXO s [4] i)).data.toList,48<=b.toNat/\b.toNat<=57:=by
 intro b c;obtain⟨g,h,d,_⟩:=zCL s [4] hi;rw[Lib.extract_data]at c;obtain⟨j,f,rfl⟩:=List.getElem_of_mem c;simp only[List.length_take,List.length_drop,Array.length_toList,ByteArray.size_data]at f;have a:i+j<s.size:=by omega
 have:=d (i+j) (by omega) (by omega);rw[zD8 a]at this;have e:zCb s[i+j]=4:=by simpa using this
 simp only[List.getElem_take,List.getElem_drop];exact zMs e
theorem zPc(S:Nat)(s:ByteArray)(i:Nat)(w:World)(h:zBB w S s)(hi:i<s.size)(X:s.size<=20000)(o:zL s i=4):
  Calls prog 156 #[.pointer (some ⟨S,0,none⟩),.int .i64 (i:Int)] w (zDM s i w):=by
 have V:=h.lt;have q:=zCL s [4] (i:=i) (by omega);have J:=q.1;have K:=q.2.1
 have L:i<zXO s [4] i:=by
  rcases Nat.lt_or_ge i (zXO s [4] i)with h'|h'
  ·exact h'
  have e:zXO s [4] i=i:=by omega
  have:=q.2.2.2 (by omega);rw[e,o]at this;simp at this
 have z:=zPb (s:=s) (i:=i) (by omega)
 have A:zBG s i=(if 13<zXO s [4] i-i\/zL s (zXO s [4] i)=3\/zL s (zXO s [4] i)=5 then((zCo,0,4):Tok × Int × Int)else((⟨2,i,numOf (s.extract i (zXO s [4] i)),s.extract i (zXO s [4] i)⟩,((zXO s [4] i:Nat):Int),0):Tok × Int × Int)):=by
  unfold zBG;rw[if_neg (by omega),if_pos o]
 have d:=hid A;have H:=hid h;have D:=hid o;have s0:=h.1;have u:=hid (λW B h I=>zT4 S s i B W h I (by omega) (by omega));have E:=hid z;clear q A o h z;generalize zXO s [4] i=k at*;generalize g:zL s k=c2 at*;have t:=hid g;clear g;go_enter func156,ntmps156
 go_wp2_with fail
 refine(zEu S s i _ (.alloc H _) (by omega) (by omega)).mono ?_;rintro e w' ⟨rfl,n,rfl⟩;rw[D.out];go_wp2_with fail
 refine(u _ _ (.drewN (.alloc (.alloc H _) _) _) (.drewN (zFW _ _ _ _) _)).mono ?_;rintro e w' ⟨rfl,Y,rfl⟩;go_wp2_with fail
 refine(zEu S s k _ (.drewN (.alloc (.alloc H _) _) _) (by omega) (by omega)).mono ?_;rintro e w' ⟨rfl,Z,rfl⟩;rw[t.out];by_cases x:13<k-i
 ·have f:decide ((13:Int)<(k:Int)-(i:Int))=true:=by simp;omega
  rw[if_pos (Or.inl x)]at d;go_wp2;refine bodyPost_ret (v:= .tuple #[.agg (Tok.cells zCo).toArray,.int .i64 0,.int .i64 4]) (by simp[results,results156,go_sem];rfl) rfl (zBL d (by exact blw))
 have f:decide ((13:Int)<(k:Int)-(i:Int))=false:=by simp;omega
 by_cases j:c2=3
 ·rw[if_pos (Or.inr (Or.inl j))]at d;subst j;go_wp2;refine bodyPost_ret (v:= .tuple #[.agg (Tok.cells zCo).toArray,.int .i64 0,.int .i64 4]) (by simp[results,results156,go_sem];rfl) rfl (zBL d (by exact blw))
 have F:(c2==(3:Int))=false:=by simp[j]
 by_cases m:c2=5
 ·rw[if_pos (Or.inr (Or.inr m))]at d;subst m;go_wp2;refine bodyPost_ret (v:= .tuple #[.agg (Tok.cells zCo).toArray,.int .i64 0,.int .i64 4]) (by simp[results,results156,go_sem];rfl) rfl (zBL d (by exact blw))
 have G:(c2==(5:Int))=false:=by simp[m]
 rw[if_neg (by rintro(a|a|a)<;>contradiction)]at d;clear j m;go_wp2_with fail
 refine(zRG _ (by simp;omega) (by
  intro he;have:=congrArg List.length he;rw[Lib.extract_data]at this;simp at this
  omega) E _).mono ?_
 rintro e C ⟨rfl,b⟩;have c:Blk C w.heap.size 156 #[.int .i64 0,.int .i64 0,.int .i64 0,.string ⟨#[]⟩]:=Blk.below (.drewN (.alloc (Blk.new w _ _) _) _) b (by simp;omega);have s3:=(zBB.below (.drewN (.alloc (.alloc H _) _) _) b (by simp;omega)).1;have M:=c.at0;have N:=c.at1;have O:=c.at2;have P:=c.at3;have Q:=c.frozen 0;have R:=c.frozen 1;have T:=c.frozen 2;have U:=c.frozen 3;clear c;have y:Bw w C:= .trans (below_drewN' (.alloc (.alloc (.refl _ _) (Nat.le_refl _) _) (by simp) _) _) (b.mono (by simp;omega));clear b;go_wp2;refine bodyPost_ret (v:= .tuple #[.agg (Tok.cells ⟨2,i,numOf (s.extract i k),s.extract i k⟩).toArray,.int .i64 (k:Int),.int .i64 0]) (by simp[results,results156,go_sem,M,N,O,P];rfl) rfl (zBL d (by exact blw))
end Go.Proofs.YtommaegelgilnaaGreatDoor
