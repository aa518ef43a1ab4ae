/- Texts W10 W11 W12. -/
import Derived.Test.YthpocbeoanipbaaGreatDoorM12
set_option linter.all false
namespace Go.Proofs.YthpocbeoanipbaaGreatDoor
open Go.RowKit Go.Proofs.Tryz
set_option maxHeartbeats 1000000
set_option maxRecDepth 100000
variable{i:Nat}{s:ByteArray}
theorem zVm:zS2.data.toList=[34,10]:=rfl
theorem zGw(a:List UInt8):∀l:List UInt8,-1<=Lib.indexAny l a/\(0<=Lib.indexAny l a->(Lib.indexAny l a).toNat <l.length)
 |[]=>by simp[Lib.indexAny]
 |b::l=>by
  have ih:=zGw a l;unfold Lib.indexAny;split
  ·simp
  ·split
   ·simp
   ·rename_i h1 h2;(have:Lib.indexAny l a≠ -1:=by simpa using h2);refine⟨by omega,λ_=> ?_⟩;have:=ih.2 (by omega);simp only[List.length_cons];omega
theorem zPg(S:Nat)(s:ByteArray)(i:Nat)(w:World)(h:zAd w S s)(hi:i<s.size)(g:s.size<=20000)(a:zH s i=9):
  Calls prog 77 #[.pointer (some ⟨S,0,none⟩),.int .i64 (i:Int)] w (zDK s i w):=by
 have f:=h.lt
 have b:zq s i=(⟨4,i,0,s.extract i (i+1)⟩,(i:Int)+1,0):=by
  unfold zq;rw[if_neg (by omega),if_neg (by omega),if_neg (by omega),if_neg (by omega),if_pos a]
 have d:=hid b;have H:=hid h;have c:=hid a;have j:=h.1;clear b a h;go_enter func77,ntmps77
 go_wp2_with fail
 refine(zFH S s i _ (.alloc H.out _) (by omega) (by omega)).mono ?_;rintro e k ⟨rfl,n,rfl⟩;rw[c.out];go_wp2;refine bodyPost_ret (v:= .tuple #[.agg (Tok.cells ⟨4,i,0,s.extract i (i+1)⟩).toArray,.int .i64 ((i:Int)+1),.int .i64 0]) (by simp[results,results77,go_sem];rfl) rfl (zAn d.out (by exact blw))
theorem zRC(S:Nat)(s:ByteArray)(i:Nat)(w:World)(h:zAd w S s)(hi:i<s.size)(o:s.size<=20000)(a:zH s i≠3)(b:zH s i≠4)(c:zH s i≠6)(f:zH s i≠7)(g:zH s i≠8)(d:zH s i≠9):
  Calls prog 77 #[.pointer (some ⟨S,0,none⟩),.int .i64 (i:Int)] w (zDK s i w):=by
 have m:=h.lt
 have j:zq s i=(zCY,0,3):=by
  unfold zq;rw[if_neg a,if_neg b,if_neg c,if_neg (by omega),if_neg d]
 have k:=hid j;have H:=hid h;have A:=h.1;have q:(zH s i==(3:Int))=false:=by simp[a]
 have t:(zH s i==(4:Int))=false:=by simp[b]
 have u:(zH s i==(6:Int))=false:=by simp[c]
 have x:(zH s i==(7:Int))=false:=by simp[f]
 have y:(zH s i==(8:Int))=false:=by simp[g]
 have z:(zH s i==(9:Int))=false:=by simp[d]
 clear j h a b c f g d;go_enter func77,ntmps77
 go_wp2_with fail
 refine(zFH S s i _ (.alloc H.out _) (by omega) (by omega)).mono ?_;rintro e B ⟨rfl,n,rfl⟩;go_wp2;refine bodyPost_ret (v:= .tuple #[.agg (Tok.cells zCY).toArray,.int .i64 0,.int .i64 3]) (by simp[results,results77,go_sem];rfl) rfl (zAn k.out (by exact blw))
theorem zMl(x p:ByteArray)(W:World):Calls prog 121 #[.string x,.string p] W λe w'=>e= .returned (.bool (Lib.hasPrefix x.data.toList p.data.toList))/\W=w':=by
 refine(Tryz.strings_HasPrefix x p W).mono ?_;rintro e w' ⟨rfl,rfl⟩;exact⟨rfl,rfl⟩
theorem zNL(S:Nat)(s:ByteArray)(i:Nat)(w:World)(h:zAd w S s)(hi:i<s.size)(t:s.size<=20000)(a:zH s i=7\/zH s i=8):
  Calls prog 77 #[.pointer (some ⟨S,0,none⟩),.int .i64 (i:Int)] w (zDK s i w):=by
 have o:=h.lt
 have k:zq s i=(if Lib.hasPrefix (s.extract (i+1) s.size).data.toList [61]=true then(⟨4,i,0,s.extract i (i+2)⟩,(i:Int)+2,0)
   else if zH s i=7 then(zCY,0,3)else(⟨4,i,0,s.extract i (i+1)⟩,(i:Int)+1,0)):=by
  unfold zq;rw[if_neg (by omega),if_neg (by omega),if_neg (by omega),if_pos a]
 have m:∀W,Calls prog 121 #[.string (s.extract (i+1) s.size),.string ⟨#[61]⟩] W λe f=>e= .returned (.bool (Lib.hasPrefix (s.extract (i+1) s.size).data.toList [61]))/\W=f:=λW=>zMl _ ⟨#[61]⟩ W
 have b:Lib.hasPrefix (s.extract (i+1) s.size).data.toList [61]=true->i+2<=s.size:=by
  intro c;unfold Lib.hasPrefix at c;have:=(List.isPrefixOf_iff_prefix.1 c).length_le;rw[Lib.extract_data]at this;simp at this;omega
 have d:=hid k;have j:=hid m;have H:=hid h;have u:=h.1;clear k h m
 cases c:Lib.hasPrefix (s.extract (i+1) s.size).data.toList [61]with
 |true=>
  rw[c,if_pos rfl]at d;rw[c]at j;have q:=b c;clear b c;rcases a with a|a
  all_goals
   have g:=hid a;clear a;(go_enter func77,ntmps77);(go_wp2_with fail);refine(zFH S s i _ (.alloc H.out _) (by omega) (by omega)).mono ?_;rintro e f ⟨rfl,n,rfl⟩;rw[g.out];go_wp2_with(go_at_call 121;refine(j.out _).mono ?_;rintro e f ⟨rfl,rfl⟩);refine bodyPost_ret (v:= .tuple #[.agg (Tok.cells ⟨4,i,0,s.extract i (i+2)⟩).toArray,.int .i64 ((i:Int)+2),.int .i64 0]) (by simp[results,results77,go_sem];rfl) rfl (zAn d.out (by exact blw))
 |false=>
  rw[c,if_neg (by simp)]at d;rw[c]at j;clear b c;rcases a with a|a
  ·rw[if_pos a]at d;have g:=hid a;clear a;(go_enter func77,ntmps77);(go_wp2_with fail);refine(zFH S s i _ (.alloc H.out _) (by omega) (by omega)).mono ?_;rintro e f ⟨rfl,n,rfl⟩;rw[g.out];go_wp2_with(go_at_call 121;refine(j.out _).mono ?_;rintro e f ⟨rfl,rfl⟩);refine bodyPost_ret (v:= .tuple #[.agg (Tok.cells zCY).toArray,.int .i64 0,.int .i64 3]) (by simp[results,results77,go_sem];rfl) rfl (zAn d.out (by exact blw))
  ·rw[if_neg (by omega)]at d;have g:=hid a;clear a;(go_enter func77,ntmps77);(go_wp2_with fail);refine(zFH S s i _ (.alloc H.out _) (by omega) (by omega)).mono ?_;rintro e f ⟨rfl,n,rfl⟩;rw[g.out];go_wp2_with(go_at_call 121;refine(j.out _).mono ?_;rintro e f ⟨rfl,rfl⟩);refine bodyPost_ret (v:= .tuple #[.agg (Tok.cells ⟨4,i,0,s.extract i (i+1)⟩).toArray,.int .i64 ((i:Int)+1),.int .i64 0]) (by simp[results,results77,go_sem];rfl) rfl (zAn d.out (by exact blw))
theorem zJ0{k:Nat}(a:k<s.size){c:UInt8}:s.data.toList[k]? =some c↔s[k]=c:=by
 rw[zBI a];simp
theorem zRD(S:Nat)(s:ByteArray)(i:Nat)(w:World)(h:zAd w S s)(hi:i<s.size)(hs:s.size<=20000)(D:zH s i=6):
  Calls prog 77 #[.pointer (some ⟨S,0,none⟩),.int .i64 (i:Int)] w (zDK s i w):=by
 have Z:=h.lt
 have I:zq s i=(if Lib.indexAny (s.extract (i+1) s.size).data.toList [34,10]<0\/(s.extract (i+1) s.size).data.toList[(Lib.indexAny (s.extract (i+1) s.size).data.toList [34,10]).toNat]? =some 10 then(zCY,0,6)
   else if 400<Lib.indexAny (s.extract (i+1) s.size).data.toList [34,10]then(zCY,0,2)
   else(⟨3,i,0,(s.extract (i+1) s.size).extract 0 (Lib.indexAny (s.extract (i+1) s.size).data.toList [34,10]).toNat⟩,i+Lib.indexAny (s.extract (i+1) s.size).data.toList [34,10]+2,0)):=by
  unfold zq;rw[if_neg (by omega),if_neg (by omega),if_pos D]
 obtain⟨R,F⟩:=zGw [34,10] (s.extract (i+1) s.size).data.toList;have x:(s.extract (i+1) s.size).size =s.size-(i+1):=by simp
 have o:=hid (λW=>zQo zS2 (by decide) rfl (s.extract (i+1) s.size) (by omega) W);rw[zVm]at o;have d:=hid I;have H:=hid h;have L:=hid D;have Q:=h.1;have C:=hid x;have u:0<=Lib.indexAny (s.extract (i+1) s.size).data.toList [34,10]->(Lib.indexAny (s.extract (i+1) s.size).data.toList [34,10]).toNat <(s.extract (i+1) s.size).size :=by simpa using F
 have T:((i:Nat):Int)+1<=s.size:=by omega
 clear I D h x F;go_enter func77,ntmps77
 go_wp2_with fail
 refine(zFH S s i _ (.alloc H.out _) (by omega) (by omega)).mono ?_;rintro e w' ⟨rfl,n,rfl⟩;rw[L.out];go_wp2_with fail
 refine(o.out _).mono ?_;rintro e K ⟨rfl,f⟩;have g:Blk K w.heap.size 102 #[.int .i64 0,.int .i64 0,.int .i64 0,.string ⟨#[]⟩]:=Blk.below (.drewN (Blk.new w _ _) _) f (by simp);have s3:=(zAd.below (.drewN (.alloc H.out _) _) f (by simp;omega)).1;have y:=g.at0;have z:=g.at1;have A:=g.at2;have B:=g.at3;have U:=g.frozen 0;have V:=g.frozen 1;have X:=g.frozen 2;have Y:=g.frozen 3;have G:Bw w K:= .trans (by exact blw) (f.mono (by simp));clear g f Q;generalize s.extract (i+1) s.size=r at*;generalize P:Lib.indexAny r.data.toList [34,10]=q at*;clear P;by_cases b:q<0
 ·rw[if_pos (Or.inl b)]at d;have k:decide (q<0)=true:=by simpa using b
  go_wp2;refine bodyPost_ret (v:= .tuple #[.agg (Tok.cells zCY).toArray,.int .i64 0,.int .i64 6]) (by simp[results,results77,go_sem,y,z,A,B];rfl) rfl (zAn d.out (by exact blw))
 ·have k:decide (q<0)=false:=by simpa using b
  obtain⟨m,rfl⟩:∃m:Nat,q=m:=⟨q.toNat,by omega⟩;have E:=u (by omega);simp only[Int.toNat_natCast]at E d;have J:=C.out;have O:((m:Nat):Int)<(r.size:Int):=by omega
  clear u;by_cases c:r[m]=10
  ·rw[if_pos (Or.inr ((zJ0 E).2 c))]at d;(have t:(((r[m].toNat :Nat):Int)==10)=true:=by rw[c];rfl);clear c;go_wp2;refine bodyPost_ret (v:= .tuple #[.agg (Tok.cells zCY).toArray,.int .i64 0,.int .i64 6]) (by simp[results,results77,go_sem,y,z,A,B];rfl) rfl (zAn d.out (by exact blw))
  ·rw[if_neg (λN=>N.elim (λa=>b a) (λa=>c ((zJ0 E).1 a)))]at d
   have t:(((r[m].toNat :Nat):Int)==10)=false:=by
    rw[beq_eq_false_iff_ne];intro e;exact c (UInt8.toNat_inj.1 (by have M:(10:UInt8).toNat =10:=rfl;omega))
   clear c;by_cases j:(400:Int)<m
   ·rw[if_pos j]at d;go_wp2;refine bodyPost_ret (v:= .tuple #[.agg (Tok.cells zCY).toArray,.int .i64 0,.int .i64 2]) (by simp[results,results77,go_sem,y,z,A,B];rfl) rfl (zAn d.out (by exact blw))
   ·rw[if_neg j]at d;go_wp2;refine bodyPost_ret (v:= .tuple #[.agg (Tok.cells ⟨3,i,0,r.extract 0 m⟩).toArray,.int .i64 ((i:Int)+m+2),.int .i64 0]) (by simp[results,results77,go_sem,y,z,A,B];rfl) rfl (zAn d.out (by exact blw))
theorem zTr(S:Nat)(s:ByteArray)(i:Nat)(w:World)(h:zAd w S s)(hi:i<s.size)(a:s.size<=20000):
  Calls prog 77 #[.pointer (some ⟨S,0,none⟩),.int .i64 (i:Int)] w (zDK s i w):=by
 by_cases b:zH s i=3
 ·exact zPc S s i w h hi a b
 by_cases c:zH s i=4
 ·exact zQr S s i w h hi a c
 by_cases d:zH s i=6
 ·exact zRD S s i w h hi a d
 by_cases e:zH s i=7
 ·exact zNL S s i w h hi a (.inl e)
 by_cases f:zH s i=8
 ·exact zNL S s i w h hi a (.inr f)
 by_cases g:zH s i=9
 ·exact zPg S s i w h hi a g
 exact zRC S s i w h hi a b c d e f g
def zCm(s:ByteArray):Array Value:=#[.string s]++zAa zFO
theorem zFf(s:ByteArray):(zCm s).size =257:=by simp[zCm,zEO,zHb]
theorem zJK:∀(l:List Value)(k o:Nat)(cs:Array Value),(l.zipIdx k).foldl (λcs x=>cs.setIfInBounds (o+x.2) x.1) cs=zCT cs l (o+k)
 |[],_,_,_=>rfl
 |v::r,k,o,cs=>by
  simp only[List.zipIdx_cons,List.foldl_cons];rw[zJK r (k+1) o];rfl
theorem Tryz.zc179:Tryz.zeroCells142.size=257:=by kernel_rfl
theorem Tryz.sz179:(prog.info? 142).map (·.size)=some 257:=by kernel_rfl
theorem zRE(s:ByteArray):(Array.foldl (λcs x=>cs.setIfInBounds (1+x.snd) x.fst) (Tryz.zeroCells142.setIfInBounds 0 (Value.string s)) (zAa zFO).zipIdx 0 256)=zCm s:=by
 have a:(zAa zFO).size =256:=by rw[zEO,zHb]
 have e:(zAa zFO).zipIdx.size =256:=by simp[a]
 rw[<-e,<-Array.foldl_toList,Array.toList_zipIdx,zJK];apply Array.ext_getElem?;intro j;rw[zE7 _ _ _ (by simp[a])];simp only[Array.length_toList,a];have b:=Tryz.zc179;by_cases c:j=0
 ·subst c;rw[if_neg (by omega)];simp only[zCm];rw[Array.getElem?_append_left (by simp)];simp[b]
 ·by_cases d:j<257
  ·rw[if_pos (by omega)];simp only[zCm];rw[Array.getElem?_append_right (by simp;omega)];simp
  ·rw[if_neg (by omega)];rw[Array.getElem?_eq_none (by simp[b];omega),Array.getElem?_eq_none (by have:=zFf s;omega)]
theorem zOI(s:ByteArray):(zCm s).all (·.oneCell')=true:=by
 unfold zCm;rw[Array.all_append,zN2];simp[Value.oneCell']
theorem zSd{w:World}{S:Nat}{t:TypeId}(h:Blk w S t (zCm s)):zAd w S s:=by
 refine⟨by rw[h.cell];unfold zCm;rw[Array.getElem?_append_left (by simp)];rfl,λb=> ?_⟩;rw[h.cell];unfold zCm;rw[Array.getElem?_append_right (by simp),zTB];have:=zVA b;simp[this]
def zDL(s:ByteArray):Nat->Nat->List Tok->List Tok × Int × Int
 |0,_,acc=>(acc,0,0)
 |f+1,i,acc=>
  if i<s.size then
   (if(zq s i).2.2=0/\acc.length=5000 then([],2,i)
    else if(zq s i).2.2≠0 then([],(zq s i).2.2,i)
    else zDL s f (zEI s (zq s i).2.1.toNat) (acc++[(zq s i).1]))
  else(acc,0,0)
def zJ(s:ByteArray):List Tok × Int × Int:=if 20000<s.size then([],2,-1)else zDL s (s.size+1) (zEI s 0) []
theorem zKf(s:ByteArray):∀f j,j<=s.size->j<=zEq s f j/\zEq s f j<=s.size
 |0,j,h=>⟨Nat.le_refl _,h⟩
 |f+1,j,h=>by
  unfold zEq;split
  ·split
   ·exact⟨h,Nat.le_refl _⟩
   ·have c:=zQj s h;have a:=zBu s [1] (i:=j+(zFu s j).toNat) (by omega);have b:=zKf s f _ a.2.1;exact⟨by omega,b.2⟩
  ·exact⟨Nat.le_refl _,h⟩
theorem zFv(s:ByteArray)(h:i<=s.size):i<=zEI s i/\zEI s i<=s.size:=by
 have a:=zBu s [1] h;have b:=zKf s (s.size+1) _ a.2.1;unfold zEI;exact⟨by omega,b.2⟩
theorem zGx(hi:i<s.size)(h:(zq s i).2.2=0):(i:Int)<(zq s i).2.1/\(zq s i).2.1<=s.size:=by
 unfold zq at h⊢;split at h
 ·rename_i hc;rw[if_pos hc];split at h
  ·simp at h
  ·rename_i hk;rw[if_neg hk];obtain⟨j,k,_,a⟩:=zBu s [3,4,5] (i:=i) (by omega)
   have:i<zV s [3,4,5] i:=by
    rcases Nat.lt_or_ge i (zV s [3,4,5] i)with h'|h'
    ·exact h'
    ·(have e:zV s [3,4,5] i=i:=by omega);have:=a (by omega);rw[e,hc]at this;simp at this
   exact⟨by show(i:Int)<((zV s [3,4,5] i:Nat):Int);omega,by show((zV s [3,4,5] i:Nat):Int)<=_;omega⟩
 ·rename_i hc3;rw[if_neg hc3];split at h
  ·rename_i hc;rw[if_pos hc];split at h
   ·simp at h
   ·rename_i hk;rw[if_neg hk];obtain⟨j,k,_,a⟩:=zBu s [4] (i:=i) (by omega)
    have:i<zV s [4] i:=by
     rcases Nat.lt_or_ge i (zV s [4] i)with h'|h'
     ·exact h'
     ·(have e:zV s [4] i=i:=by omega);have:=a (by omega);rw[e,hc]at this;simp at this
    exact⟨by show(i:Int)<((zV s [4] i:Nat):Int);omega,by show((zV s [4] i:Nat):Int)<=_;omega⟩
  ·rename_i hc4;rw[if_neg hc4];split at h
   ·rename_i hc;rw[if_pos hc];split at h
    ·simp at h
    ·rename_i hk;rw[if_neg hk];split at h
     ·simp at h
     ·rename_i hk2;rw[if_neg hk2];obtain⟨n,f⟩:=zGw [34,10] (s.extract (i+1) s.size).data.toList
      have b:0<=Lib.indexAny (s.extract (i+1) s.size).data.toList [34,10]:=by
       (have:¬Lib.indexAny (s.extract (i+1) s.size).data.toList [34,10]<0:=λm=>hk (.inl m));omega
      have g:=f b;(have c:(s.extract (i+1) s.size).data.toList.length =s.size-(i+1):=by simp);rw[c]at g;exact⟨by show(i:Int)<(i:Int)+_+2;omega,by show(i:Int)+_+2<=_;omega⟩
   ·rename_i hc6;rw[if_neg hc6];split at h
    ·rename_i hc;rw[if_pos hc];split at h
     ·rename_i hp;rw[if_pos hp]
      have d:i+2<=s.size:=by
       unfold Lib.hasPrefix at hp;have:=(List.isPrefixOf_iff_prefix.1 hp).length_le;rw[Lib.extract_data]at this;simp at this;omega
      exact⟨by show(i:Int)<(i:Int)+2;omega,by show(i:Int)+2<=_;omega⟩
     ·rename_i hp;rw[if_neg hp];split at h
      ·simp at h
      ·rename_i h7;rw[if_neg h7];exact⟨by show(i:Int)<(i:Int)+1;omega,by show(i:Int)+1<=_;omega⟩
    ·rename_i hc7;rw[if_neg hc7];split at h
     ·rename_i hc;rw[if_pos hc];exact⟨by show(i:Int)<(i:Int)+1;omega,by show(i:Int)+1<=_;omega⟩
     ·simp at h
end Go.Proofs.YthpocbeoanipbaaGreatDoor
