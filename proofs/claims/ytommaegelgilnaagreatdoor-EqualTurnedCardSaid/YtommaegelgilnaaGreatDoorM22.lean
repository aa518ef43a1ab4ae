/- Lemmas. -/
import Derived.Test.YtommaegelgilnaaGreatDoorM14
import Derived.Test.YtommaegelgilnaaGreatDoorM12
set_option linter.all false
namespace Go.Proofs.YtommaegelgilnaaGreatDoor
open Go.RowKit Go.Proofs.Tryz
set_option maxHeartbeats 1000000
set_option maxRecDepth 100000
variable {i:Nat}{s:ByteArray}
theorem zUZ:zRE.data.toList=[34,10]:=rfl
theorem zG5(a:List UInt8):∀l:List UInt8,-1<=Lib.indexAny l a/\(0<=Lib.indexAny l a->(Lib.indexAny l a).toNat <l.length)
 |[]=>by simp[Lib.indexAny]
 |b::l=>by
  have ih:=zG5 a l;unfold Lib.indexAny;split
  ·simp
  split
  ·simp
  rename_i h1 h2;have:Lib.indexAny l a≠ -1:=by simpa using h2
  refine⟨by omega,λ_=> ?_⟩;have:=ih.2 (by omega);simp only[List.length_cons];omega
theorem zOc(S:Nat)(s:ByteArray)(i:Nat)(w:World)(h:zBB w S s)(hi:i<s.size)(g:s.size<=20000)(a:zL s i=9):
  Calls prog 156 #[.pointer (some ⟨S,0,none⟩),.int .i64 (i:Int)] w (zDM s i w):=by
 have f:=h.lt
 have b:zBG s i=(⟨4,i,0,s.extract i (i+1)⟩,(i:Int)+1,0):=by
  unfold zBG;rw[if_neg (by omega),if_neg (by omega),if_neg (by omega),if_neg (by omega),if_pos a]
 have d:=hid b;have H:=hid h;have c:=hid a;have j:=h.1;clear b a h;go_enter func156,ntmps156
 go_wp2_with fail
 refine(zEu S s i _ (.alloc H _) (by omega) (by omega)).mono ?_;rintro e k ⟨rfl,n,rfl⟩;rw[c.out];go_wp2;refine bodyPost_ret (v:= .tuple #[.agg (Tok.cells ⟨4,i,0,s.extract i (i+1)⟩).toArray,.int .i64 ((i:Int)+1),.int .i64 0]) (by simp[results,results156,go_sem];rfl) rfl (zBL d (by exact blw))
theorem zPp(S:Nat)(s:ByteArray)(i:Nat)(w:World)(h:zBB w S s)(hi:i<s.size)(o:s.size<=20000)(a:zL s i≠3)(b:zL s i≠4)(c:zL s i≠6)(f:zL s i≠7)(g:zL s i≠8)(d:zL s i≠9):
  Calls prog 156 #[.pointer (some ⟨S,0,none⟩),.int .i64 (i:Int)] w (zDM s i w):=by
 have m:=h.lt
 have j:zBG s i=(zCo,0,3):=by
  unfold zBG;rw[if_neg a,if_neg b,if_neg c,if_neg (by omega),if_neg d]
 have k:=hid j;have H:=hid h;have A:=h.1;have q:(zL s i==(3:Int))=false:=by simp[a]
 have t:(zL s i==(4:Int))=false:=by simp[b]
 have u:(zL s i==(6:Int))=false:=by simp[c]
 have x:(zL s i==(7:Int))=false:=by simp[f]
 have y:(zL s i==(8:Int))=false:=by simp[g]
 have z:(zL s i==(9:Int))=false:=by simp[d]
 clear j h a b c f g d;go_enter func156,ntmps156
 go_wp2_with fail
 refine(zEu S s i _ (.alloc H _) (by omega) (by omega)).mono ?_;rintro e B ⟨rfl,n,rfl⟩;go_wp2;refine bodyPost_ret (v:= .tuple #[.agg (Tok.cells zCo).toArray,.int .i64 0,.int .i64 3]) (by simp[results,results156,go_sem];rfl) rfl (zBL k (by exact blw))
theorem zLb(x p:ByteArray)(W:World):Calls prog 214 #[.string x,.string p] W λe w'=>e= .returned (.bool (Lib.hasPrefix x.data.toList p.data.toList))/\W=w':=by
 refine(Tryz.strings_HasPrefix x p W).mono ?_;rintro e w' ⟨rfl,rfl⟩;exact⟨rfl,rfl⟩
theorem zMK(S:Nat)(s:ByteArray)(i:Nat)(w:World)(h:zBB w S s)(hi:i<s.size)(t:s.size<=20000)(a:zL s i=7\/zL s i=8):
  Calls prog 156 #[.pointer (some ⟨S,0,none⟩),.int .i64 (i:Int)] w (zDM s i w):=by
 have o:=h.lt
 have k:zBG s i=(if Lib.hasPrefix (s.extract (i+1) s.size).data.toList [61]=true then(⟨4,i,0,s.extract i (i+2)⟩,(i:Int)+2,0)
   else if zL s i=7 then(zCo,0,3)else(⟨4,i,0,s.extract i (i+1)⟩,(i:Int)+1,0)):=by
  unfold zBG;rw[if_neg (by omega),if_neg (by omega),if_neg (by omega),if_pos a]
 have m:∀W,Calls prog 214 #[.string (s.extract (i+1) s.size),.string ⟨#[61]⟩] W λe f=>e= .returned (.bool (Lib.hasPrefix (s.extract (i+1) s.size).data.toList [61]))/\W=f:=λW=>zLb _ ⟨#[61]⟩ W
 have b:Lib.hasPrefix (s.extract (i+1) s.size).data.toList [61]=true->i+2<=s.size:=by
  intro c;unfold Lib.hasPrefix at c;have:=(List.isPrefixOf_iff_prefix.1 c).length_le;rw[Lib.extract_data]at this;simp at this;omega
 have d:=hid k;have j:=hid m;have H:=hid h;have u:=h.1;clear k h m
 cases c:Lib.hasPrefix (s.extract (i+1) s.size).data.toList [61]with
 |true=>
  rw[c,if_pos rfl]at d;rw[c]at j;have q:=b c;clear b c;rcases a with a|a
  all_goals
   have g:=hid a;clear a;(go_enter func156,ntmps156);(go_wp2_with fail);refine(zEu S s i _ (.alloc H _) (by omega) (by omega)).mono ?_;rintro e f ⟨rfl,n,rfl⟩;rw[g.out];go_wp2_with(go_at_call 214;refine(j _).mono ?_;rintro e f ⟨rfl,rfl⟩);refine bodyPost_ret (v:= .tuple #[.agg (Tok.cells ⟨4,i,0,s.extract i (i+2)⟩).toArray,.int .i64 ((i:Int)+2),.int .i64 0]) (by simp[results,results156,go_sem];rfl) rfl (zBL d (by exact blw))
 |false=>
 rw[c,if_neg (by simp)]at d;rw[c]at j;clear b c;rcases a with a|a
 ·rw[if_pos a]at d;have g:=hid a;clear a;go_enter func156,ntmps156
  go_wp2_with fail
  refine(zEu S s i _ (.alloc H _) (by omega) (by omega)).mono ?_;rintro e f ⟨rfl,n,rfl⟩;rw[g.out];go_wp2_with(go_at_call 214;refine(j _).mono ?_;rintro e f ⟨rfl,rfl⟩);refine bodyPost_ret (v:= .tuple #[.agg (Tok.cells zCo).toArray,.int .i64 0,.int .i64 3]) (by simp[results,results156,go_sem];rfl) rfl (zBL d (by exact blw))
 rw[if_neg (by omega)]at d;have g:=hid a;clear a;go_enter func156,ntmps156
 go_wp2_with fail
 refine(zEu S s i _ (.alloc H _) (by omega) (by omega)).mono ?_;rintro e f ⟨rfl,n,rfl⟩;rw[g.out];go_wp2_with(go_at_call 214;refine(j _).mono ?_;rintro e f ⟨rfl,rfl⟩);refine bodyPost_ret (v:= .tuple #[.agg (Tok.cells ⟨4,i,0,s.extract i (i+1)⟩).toArray,.int .i64 ((i:Int)+1),.int .i64 0]) (by simp[results,results156,go_sem];rfl) rfl (zBL d (by exact blw))
theorem zIl{k:Nat}(a:k<s.size){c:UInt8}:s.data.toList[k]? =some c↔s[k]=c:=by
 rw[zB0 a];simp
theorem zPq(S:Nat)(s:ByteArray)(i:Nat)(w:World)(h:zBB w S s)(hi:i<s.size)(hs:s.size<=20000)(D:zL s i=6):
  Calls prog 156 #[.pointer (some ⟨S,0,none⟩),.int .i64 (i:Int)] w (zDM s i w):=by
 have Z:=h.lt
 have I:zBG s i=(if Lib.indexAny (s.extract (i+1) s.size).data.toList [34,10]<0\/(s.extract (i+1) s.size).data.toList[(Lib.indexAny (s.extract (i+1) s.size).data.toList [34,10]).toNat]? =some 10 then(zCo,0,6)
   else if 400<Lib.indexAny (s.extract (i+1) s.size).data.toList [34,10]then(zCo,0,2)
   else(⟨3,i,0,(s.extract (i+1) s.size).extract 0 (Lib.indexAny (s.extract (i+1) s.size).data.toList [34,10]).toNat⟩,i+Lib.indexAny (s.extract (i+1) s.size).data.toList [34,10]+2,0)):=by
  unfold zBG;rw[if_neg (by omega),if_neg (by omega),if_pos D]
 obtain⟨R,F⟩:=zG5 [34,10] (s.extract (i+1) s.size).data.toList;have x:(s.extract (i+1) s.size).size =s.size-(i+1):=by simp
 have o:=hid (λW=>zP9 zRE (by decide) rfl (s.extract (i+1) s.size) (by omega) W);rw[zUZ]at o;have d:=hid I;have H:=hid h;have L:=hid D;have Q:=h.1;have C:=hid x;have u:0<=Lib.indexAny (s.extract (i+1) s.size).data.toList [34,10]->(Lib.indexAny (s.extract (i+1) s.size).data.toList [34,10]).toNat <(s.extract (i+1) s.size).size :=by simpa using F
 have T:((i:Nat):Int)+1<=s.size:=by omega
 clear I D h x F;go_enter func156,ntmps156
 go_wp2_with fail
 refine(zEu S s i _ (.alloc H _) (by omega) (by omega)).mono ?_;rintro e w' ⟨rfl,n,rfl⟩;rw[L.out];go_wp2_with fail
 refine(o _).mono ?_;rintro e K ⟨rfl,f⟩;have g:Blk K w.heap.size 156 #[.int .i64 0,.int .i64 0,.int .i64 0,.string ⟨#[]⟩]:=Blk.below (.drewN (Blk.new w _ _) _) f (by simp);have s3:=(zBB.below (.drewN (.alloc H _) _) f (by simp;omega)).1;have y:=g.at0;have z:=g.at1;have A:=g.at2;have B:=g.at3;have U:=g.frozen 0;have V:=g.frozen 1;have X:=g.frozen 2;have Y:=g.frozen 3;have G:Bw w K:= .trans (by exact blw) (f.mono (by simp));clear g f Q;generalize s.extract (i+1) s.size=r at*;generalize P:Lib.indexAny r.data.toList [34,10]=q at*;clear P;by_cases b:q<0
 ·rw[if_pos (Or.inl b)]at d;have k:decide (q<0)=true:=by simpa using b
  go_wp2;refine bodyPost_ret (v:= .tuple #[.agg (Tok.cells zCo).toArray,.int .i64 0,.int .i64 6]) (by simp[results,results156,go_sem,y,z,A,B];rfl) rfl (zBL d (by exact blw))
 have k:decide (q<0)=false:=by simpa using b
 obtain⟨m,rfl⟩:∃m:Nat,q=m:=⟨q.toNat,by omega⟩;have E:=u (by omega);simp only[Int.toNat_natCast]at E d;have J:=C.out;have O:((m:Nat):Int)<(r.size:Int):=by omega
 clear u;by_cases c:r[m]=10
 ·rw[if_pos (Or.inr ((zIl E).2 c))]at d;have t:(((r[m].toNat :Nat):Int)==10)=true:=by rw[c];rfl
  clear c;go_wp2;refine bodyPost_ret (v:= .tuple #[.agg (Tok.cells zCo).toArray,.int .i64 0,.int .i64 6]) (by simp[results,results156,go_sem,y,z,A,B];rfl) rfl (zBL d (by exact blw))
 rw[if_neg (λN=>N.elim (λa=>b a) (λa=>c ((zIl E).1 a)))]at d
 have t:(((r[m].toNat :Nat):Int)==10)=false:=by
  rw[beq_eq_false_iff_ne];intro e;exact c (UInt8.toNat_inj.1 (by have M:(10:UInt8).toNat =10:=rfl;omega))
 clear c;by_cases j:(400:Int)<m
 ·rw[if_pos j]at d;go_wp2;refine bodyPost_ret (v:= .tuple #[.agg (Tok.cells zCo).toArray,.int .i64 0,.int .i64 2]) (by simp[results,results156,go_sem,y,z,A,B];rfl) rfl (zBL d (by exact blw))
 rw[if_neg j]at d;go_wp2;refine bodyPost_ret (v:= .tuple #[.agg (Tok.cells ⟨3,i,0,r.extract 0 m⟩).toArray,.int .i64 ((i:Int)+m+2),.int .i64 0]) (by simp[results,results156,go_sem,y,z,A,B];rfl) rfl (zBL d (by exact blw))
theorem zSc(S:Nat)(s:ByteArray)(i:Nat)(w:World)(h:zBB w S s)(hi:i<s.size)(a:s.size<=20000):
  Calls prog 156 #[.pointer (some ⟨S,0,none⟩),.int .i64 (i:Int)] w (zDM s i w):=by
 by_cases b:zL s i=3
 ·exact zO2 S s i w h hi a b
 by_cases c:zL s i=4
 ·exact zPc S s i w h hi a c
 by_cases d:zL s i=6
 ·exact zPq S s i w h hi a d
 by_cases e:zL s i=7
 ·exact zMK S s i w h hi a (.inl e)
 by_cases f:zL s i=8
 ·exact zMK S s i w h hi a (.inr f)
 by_cases g:zL s i=9
 ·exact zOc S s i w h hi a g
 exact zPp S s i w h hi a b c d e f g
def zCj(s:ByteArray):Array Value:=#[.string s]++zAw zFS
theorem zFZ(s:ByteArray):(zCj s).size =257:=by simp[zCj,zEV,zHK]
theorem zIZ:∀(l:List Value)(k o:Nat)(cs:Array Value),(l.zipIdx k).foldl (λcs x=>cs.setIfInBounds (o+x.2) x.1) cs=zC0 cs l (o+k)
 |[],_,_,_=>rfl
 |v::r,k,o,cs=>by
  simp only[List.zipIdx_cons,List.foldl_cons];rw[zIZ r (k+1) o];rfl
theorem Tryz.zc179:Tryz.zeroCells219.size=257:=by kernel_rfl
theorem Tryz.sz179:(prog.info? 219).map (·.size)=some 257:=by kernel_rfl
theorem zPr(s:ByteArray):(Array.foldl (λcs x=>cs.setIfInBounds (1+x.snd) x.fst) (Tryz.zeroCells219.setIfInBounds 0 (Value.string s)) (zAw zFS).zipIdx 0 256)=zCj s:=by
 have a:(zAw zFS).size =256:=by rw[zEV,zHK]
 have e:(zAw zFS).zipIdx.size =256:=by simp[a]
 rw[<-e,<-Array.foldl_toList,Array.toList_zipIdx,zIZ];apply Array.ext_getElem?;intro j;rw[zCJ _ _ _ (by simp[a])];simp only[Array.length_toList,a];have b:=Tryz.zc179;by_cases c:j=0
 ·subst c;rw[if_neg (by omega)];simp only[zCj];rw[Array.getElem?_append_left (by simp)];simp[b]
 by_cases d:j<257
 ·rw[if_pos (by omega)];simp only[zCj];rw[Array.getElem?_append_right (by simp;omega)];simp
 rw[if_neg (by omega)];rw[Array.getElem?_eq_none (by simp[b];omega),Array.getElem?_eq_none (by have:=zFZ s;omega)]
theorem zMu(s:ByteArray):(zCj s).all (·.oneCell')=true:=by
 unfold zCj;rw[Array.all_append,zMi];simp[Value.oneCell']
theorem zR0{w:World}{S:Nat}{t:TypeId}(h:Blk w S t (zCj s)):zBB w S s:=by
 refine⟨by rw[h.cell];unfold zCj;rw[Array.getElem?_append_left (by simp)];rfl,λb=> ?_⟩;rw[h.cell];unfold zCj;rw[Array.getElem?_append_right (by simp),zSR];have:=zTz b;simp[this]
def zFx(s:ByteArray):Nat->Nat->List Tok->List Tok × Int × Int
 |0,_,acc=>(acc,0,0)
 |f+1,i,acc=>
 if i<s.size then
  (if(zBG s i).2.2=0/\acc.length=5000 then([],2,i)
   else if(zBG s i).2.2≠0 then([],(zBG s i).2.2,i)
   else zFx s f (zEc s (zBG s i).2.1.toNat) (acc++[(zBG s i).1]))
 else(acc,0,0)
def zCg(s:ByteArray):List Tok × Int × Int:=if 20000<s.size then([],2,-1)else zFx s (s.size+1) (zEc s 0) []
theorem zJf(s:ByteArray):∀f j,j<=s.size->j<=zEb s f j/\zEb s f j<=s.size
 |0,j,h=>⟨Nat.le_refl _,h⟩
 |f+1,j,h=>by
  unfold zEb;split
  ·split
   ·exact⟨h,Nat.le_refl _⟩
   have c:=zPJ s h;have a:=zCL s [1] (i:=j+(zFV s j).toNat) (by omega);have b:=zJf s f _ a.2.1;exact⟨by omega,b.2⟩
  exact⟨Nat.le_refl _,h⟩
theorem zJg(s:ByteArray)(h:i<=s.size):i<=zEc s i/\zEc s i<=s.size:=by
 have a:=zCL s [1] h;have b:=zJf s (s.size+1) _ a.2.1;unfold zEc;exact⟨by omega,b.2⟩
theorem zN9(hi:i<s.size)(h:(zBG s i).2.2=0):(i:Int)<(zBG s i).2.1/\(zBG s i).2.1<=s.size:=by
 unfold zBG at h⊢;split at h
 ·rename_i hc;rw[if_pos hc];split at h
  ·simp at h
  rename_i hk;rw[if_neg hk];obtain⟨j,k,_,a⟩:=zCL s [3,4,5] (i:=i) (by omega)
  have:i<zXO s [3,4,5] i:=by
   rcases Nat.lt_or_ge i (zXO s [3,4,5] i)with h'|h'
   ·exact h'
   (have e:zXO s [3,4,5] i=i:=by omega);have:=a (by omega);rw[e,hc]at this;simp at this
  exact⟨by show(i:Int)<((zXO s [3,4,5] i:Nat):Int);omega,by show((zXO s [3,4,5] i:Nat):Int)<=_;omega⟩
 rename_i hc3;rw[if_neg hc3];split at h
 ·rename_i hc;rw[if_pos hc];split at h
  ·simp at h
  rename_i hk;rw[if_neg hk];obtain⟨j,k,_,a⟩:=zCL s [4] (i:=i) (by omega)
  have:i<zXO s [4] i:=by
   rcases Nat.lt_or_ge i (zXO s [4] i)with h'|h'
   ·exact h'
   (have e:zXO s [4] i=i:=by omega);have:=a (by omega);rw[e,hc]at this;simp at this
  exact⟨by show(i:Int)<((zXO s [4] i:Nat):Int);omega,by show((zXO s [4] i:Nat):Int)<=_;omega⟩
 rename_i hc4;rw[if_neg hc4];split at h
 ·rename_i hc;rw[if_pos hc];split at h
  ·simp at h
  rename_i hk;rw[if_neg hk];split at h
  ·simp at h
  rename_i hk2;rw[if_neg hk2];obtain⟨n,f⟩:=zG5 [34,10] (s.extract (i+1) s.size).data.toList
  have b:0<=Lib.indexAny (s.extract (i+1) s.size).data.toList [34,10]:=by
   (have:¬Lib.indexAny (s.extract (i+1) s.size).data.toList [34,10]<0:=λm=>hk (.inl m));omega
  have g:=f b;have c:(s.extract (i+1) s.size).data.toList.length =s.size-(i+1):=by simp
  rw[c]at g;exact⟨by show(i:Int)<(i:Int)+_+2;omega,by show(i:Int)+_+2<=_;omega⟩
 rename_i hc6;rw[if_neg hc6];split at h
 ·rename_i hc;rw[if_pos hc];split at h
  ·rename_i hp;rw[if_pos hp]
   have d:i+2<=s.size:=by
    unfold Lib.hasPrefix at hp;have:=(List.isPrefixOf_iff_prefix.1 hp).length_le;rw[Lib.extract_data]at this;simp at this;omega
   exact⟨by show(i:Int)<(i:Int)+2;omega,by show(i:Int)+2<=_;omega⟩
  rename_i hp;rw[if_neg hp];split at h
  ·simp at h
  rename_i h7;rw[if_neg h7];exact⟨by show(i:Int)<(i:Int)+1;omega,by show(i:Int)+1<=_;omega⟩
 rename_i hc7;rw[if_neg hc7];split at h
 ·rename_i hc;rw[if_pos hc];exact⟨by show(i:Int)<(i:Int)+1;omega,by show(i:Int)+1<=_;omega⟩
 simp at h
end Go.Proofs.YtommaegelgilnaaGreatDoor
