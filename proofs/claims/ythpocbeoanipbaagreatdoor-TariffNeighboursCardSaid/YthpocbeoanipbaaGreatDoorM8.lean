/- Texts W7. -/
import Derived.Test.YthpocbeoanipbaaGreatDoorM6
set_option linter.all false
namespace Go.Proofs.YthpocbeoanipbaaGreatDoor
open Go.RowKit Go.Proofs.Tryz
set_option maxHeartbeats 2000000
set_option maxRecDepth 100000
variable{j:Nat}{s:ByteArray}
theorem zAd.drewN{w:World}{S:Nat}(h:zAd w S s)(n:Nat):zAd (w.drewN n) S s:=⟨h.1,h.2⟩
theorem zKN(Z:zE)(v:Value)(c:List Int)(x:Int)(w:World)(h:zK Z w v c):
  Calls prog 148 #[v,.int .i64 x] w λe w'=>e= .returned (.bool (c.contains x))/\w=w':=by
 have g:c.length*8<=140737488355328:=by obtain⟨⟨_,_,_,_,_,i,_⟩,_⟩:=h;exact i
 by_cases d:c=[]
 ·subst d;obtain⟨⟨A,a,rfl,_⟩,_⟩:=h;refine(Tryz.slices_Contains_int_empty A a x w).mono ?_;rintro e w' ⟨rfl,rfl⟩;exact⟨rfl,rfl⟩
 ·obtain⟨b,f,a,rfl,_,_,_,j⟩:=h.open_ d;refine(Tryz.slices_Contains_int b f c.length a c x w (Nat.le_refl _) (by omega) j).mono ?_;rintro e w' ⟨rfl,rfl⟩;exact⟨by rw[List.take_length],rfl⟩
theorem zKO(S:Nat)(s:ByteArray)(i:Int)(Z:zE)(v:Value)(c:List Int)(w:World)(h:zAd w S s)(hi:0<=i)(G:i<=s.size)(E:s.size<=140737488355328)(F:zK Z w v c):
  Calls prog 116 #[.pointer (some ⟨S,0,none⟩),.int .i64 i,v] w λe w'=>e= .returned (.int .i64 (zV s c i.toNat))/\∃n,w'=w.drewN n:=by
 obtain⟨C,rfl⟩:∃k:Nat,i=k:=⟨i.toNat,by omega⟩;have J:=h.1;have H:=hid h;have D:=hid F;clear h F;go_enter func116,ntmps116
 go_wp2;go_loopw[1] (λi wr=>∃k q:Nat,C<=k/\k<=s.size/\i= .int .i64 k/\Hid (∀j,C<=j->j<k->c.contains (zH s j)=true)/\wr=w.drewN q) (λi _=>s.size-(intOf i).toNat);case atStart=>exact⟨C,0,Nat.le_refl _,by omega,rfl,λj a b=>by omega,rfl⟩
 case round=>
  obtain⟨k,q,y,K,rfl,m,rfl⟩:=hrel;by_cases I:k<s.size
  ·have z:decide ((k:Int)<(s.size:Int))=true:=by simp;omega
   cases u:c.contains (zH s k)with
   |true=>
    have d:=hid u;clear u
    repeat' (first|(go_big_may;first
     |(go_at_call 117;refine(zIQ S s k _ (H.out.drewN q) (by omega) (by omega) E).mono ?_;rintro e w' ⟨rfl,n,rfl⟩;simp only[Int.toNat_natCast])
     |(go_at_call 148;refine(zKN Z v c (zH s k) _ (D.out.drewN _)).mono ?_;rintro e w' ⟨rfl,rfl⟩;rw[d.out]))|((with_reducible apply zDF);rfl;first|((with_reducible apply zDE);rfl;rfl;rfl;exact zBz.app;intro A x;(simp only[nr]))|((with_reducible apply zCp);rfl;rfl;rfl;exact zBz.app;intro A x;(simp only[nr]))|((with_reducible apply zCO);rfl;rfl;rfl;simp only[])|((with_reducible apply zC2);rfl;rfl;(first|exact Or.inl rfl|exact Or.inr rfl);(simp only[nr]))|((with_reducible apply zCN);rfl;rfl;rfl;rfl;exact(by constructor);rfl;(simp only[nr]))|((with_reducible apply zCA);rfl;rfl;rfl;rfl;exact(by constructor);rfl;(simp only[nr]))|((with_reducible apply zBo);rfl;first|((with_reducible apply zBR);rfl;rfl;rfl;exact(by constructor);rfl;rfl;rfl;rfl;(simp only[nr]))|((with_reducible apply zB6);rfl;rfl;rfl;exact(by constructor);rfl;rfl;rfl;rfl;(simp only[nr])))|((with_reducible apply zAv);rfl;rfl;rfl;exact(by constructor);(intro t;(try simp only[Bool.and_eq_true,Bool.not_eq_true']at t);(first|subst t|(obtain⟨f,g⟩:=t;subst f;subst g)|(obtain⟨⟨f,g⟩,B⟩:=t;subst f;subst g;subst B));(try simp only[zAq,zA7,Bool.not_true,Bool.not_false,Bool.true_and,Bool.false_and,Bool.and_self]);go_simp;with_reducible rfl);(simp only[nr]))|((with_reducible apply zCL);rfl;rfl;rfl;all_goals(intro o;subst o;(try simp only[zAq,zA7,Bool.not_true,Bool.not_false,Bool.true_and,Bool.false_and,Bool.and_self])))|((with_reducible apply zBn);rfl;rfl;rfl;all_goals(intro o;(first|subst o|((try simp only[Bool.and_eq_true,Bool.not_eq_true']at o);obtain⟨f,g⟩:=o;subst f;subst g));(try simp only[zAq,zA7,Bool.not_true,Bool.not_false,Bool.true_and,Bool.false_and,Bool.and_self]))))|((with_reducible apply zCM);rfl;rfl;first|((with_reducible apply zCJ);rfl;rfl;rfl;rfl;(simp only[nr]))|((with_reducible apply zCK);rfl;rfl;rfl;rfl;(simp only[nr]))|((with_reducible apply zB5);rfl;rfl;rfl;rfl;rfl;(simp only[nr]))|((with_reducible apply zBm);rfl;rfl;rfl;rfl;rfl;(simp only[nr])))|go_values|go_guarded|go_step|go_upon|go_back|dsimp only)
    go_roundw
    case rel=>exact⟨k+1,q+n,by omega,by omega,by go_num,λj a b=>by
     by_cases e:j=k
     ·subst e;exact d.out
     ·exact m.out j a (by omega),by first|rfl|rw[World.drewN_drewN]⟩
    case measure=>simp[intOf];omega
   |false=>
    have d:=hid u;clear u
    repeat' (first|(go_big_may;first
     |(go_at_call 117;refine(zIQ S s k _ (H.out.drewN q) (by omega) (by omega) E).mono ?_;rintro e w' ⟨rfl,n,rfl⟩;simp only[Int.toNat_natCast])
     |(go_at_call 148;refine(zKN Z v c (zH s k) _ (D.out.drewN _)).mono ?_;rintro e w' ⟨rfl,rfl⟩;rw[d.out]))|((with_reducible apply zDF);rfl;first|((with_reducible apply zDE);rfl;rfl;rfl;exact zBz.app;intro A x;(simp only[nr]))|((with_reducible apply zCp);rfl;rfl;rfl;exact zBz.app;intro A x;(simp only[nr]))|((with_reducible apply zCO);rfl;rfl;rfl;simp only[])|((with_reducible apply zC2);rfl;rfl;(first|exact Or.inl rfl|exact Or.inr rfl);(simp only[nr]))|((with_reducible apply zCN);rfl;rfl;rfl;rfl;exact(by constructor);rfl;(simp only[nr]))|((with_reducible apply zCA);rfl;rfl;rfl;rfl;exact(by constructor);rfl;(simp only[nr]))|((with_reducible apply zBo);rfl;first|((with_reducible apply zBR);rfl;rfl;rfl;exact(by constructor);rfl;rfl;rfl;rfl;(simp only[nr]))|((with_reducible apply zB6);rfl;rfl;rfl;exact(by constructor);rfl;rfl;rfl;rfl;(simp only[nr])))|((with_reducible apply zAv);rfl;rfl;rfl;exact(by constructor);(intro t;(try simp only[Bool.and_eq_true,Bool.not_eq_true']at t);(first|subst t|(obtain⟨f,g⟩:=t;subst f;subst g)|(obtain⟨⟨f,g⟩,B⟩:=t;subst f;subst g;subst B));(try simp only[zAq,zA7,Bool.not_true,Bool.not_false,Bool.true_and,Bool.false_and,Bool.and_self]);go_simp;with_reducible rfl);(simp only[nr]))|((with_reducible apply zCL);rfl;rfl;rfl;all_goals(intro o;subst o;(try simp only[zAq,zA7,Bool.not_true,Bool.not_false,Bool.true_and,Bool.false_and,Bool.and_self])))|((with_reducible apply zBn);rfl;rfl;rfl;all_goals(intro o;(first|subst o|((try simp only[Bool.and_eq_true,Bool.not_eq_true']at o);obtain⟨f,g⟩:=o;subst f;subst g));(try simp only[zAq,zA7,Bool.not_true,Bool.not_false,Bool.true_and,Bool.false_and,Bool.and_self]))))|((with_reducible apply zCM);rfl;rfl;first|((with_reducible apply zCJ);rfl;rfl;rfl;rfl;(simp only[nr]))|((with_reducible apply zCK);rfl;rfl;rfl;rfl;(simp only[nr]))|((with_reducible apply zB5);rfl;rfl;rfl;rfl;rfl;(simp only[nr]))|((with_reducible apply zBm);rfl;rfl;rfl;rfl;rfl;(simp only[nr])))|go_values|go_guarded|go_step|go_upon|go_back|dsimp only)
    go_ret;exact⟨zAp (by rw[Int.toNat_natCast,zGH y (by omega) m.out (λ_=>d.out)]),q+n,by first|rfl|rw[World.drewN_drewN]⟩
  ·(obtain rfl:k=s.size:=by omega);(have z:decide ((s.size:Int)<(s.size:Int))=false:=by simp);go_wp2;go_ret;exact⟨zAp (by rw[Int.toNat_natCast,zGH y (Nat.le_refl _) m.out (λh=>absurd h (Nat.lt_irrefl _))]),q,rfl⟩
theorem zUg(w:World)(a:List Int)(t:TypeId)(e:a.length<=1000)(c:∀x∈a,I64 x):zK (λ_=>True) (w.alloc (.cells (a.map (.int .i64)).toArray t)) (.slice (some ⟨w.heap.size,0,none⟩) a.length a.length) a:=
 ⟨⟨_,_,rfl,Nat.le_refl _,by omega,by omega,λ_=>⟨w.heap.size,0,rfl,trivial,λj u d=>by
  have b:Blk (w.alloc (.cells (a.map (.int .i64)).toArray t)) w.heap.size t _:=Blk.new w t _
  rw[b.cell];simpa using d⟩⟩,c⟩
def zFu(s:ByteArray)(j:Nat):Int:=Lib.indexByte (s.extract j s.size).data.toList 10
theorem zQj(s:ByteArray)(b:j<=s.size): -1<=zFu s j/\zFu s j<=s.size-j:=by
 have h:∀(l:List UInt8)(c:UInt8),-1<=Lib.indexByte l c/\Lib.indexByte l c<=l.length:=by
  intro l c
  induction l with
  |nil=>simp[Lib.indexByte]
  |cons a r ih=>unfold Lib.indexByte;split<;>(try split)<;>simp<;>omega
 have:=h (s.extract j s.size).data.toList 10;unfold zFu;refine⟨this.1,Int.le_trans this.2 ?_⟩;simp;omega
theorem zUh(h:zH s j=2)(a:¬zFu s j<0):1<=zFu s j:=by
 have b:j<s.size:=by
  rcases Nat.lt_or_ge j s.size with d|d
  ·exact d
  ·rw[zGc d]at h;omega
 unfold zFu at*
 have e:(s.extract j s.size).data.toList =s[j]::(s.extract (j+1) s.size).data.toList :=by
  rw[Lib.extract_data,Lib.extract_data]
  have:s.data.toList.drop j=s[j]::s.data.toList.drop (j+1):=by
   rw[List.drop_eq_getElem_cons (by simpa using b)];congr 1
  simp only[this];have g:s.size-j=(s.size-(j+1))+1:=by omega
  rw[g,List.take_succ_cons]
 rw[e]at a⊢;rw[zD6 b]at h
 have f:(s[j]==10)=false:=by
  rw[beq_eq_false_iff_ne];intro c;rw[c]at h;simp[zCa]at h
 unfold Lib.indexByte at a⊢;rw[f]at a⊢;simp only[Bool.false_eq_true,if_false]at a⊢;split
 ·rename_i h3;rw[if_pos h3]at a;omega
 ·rename_i h3;rw[if_neg h3]at a;have i:Lib.indexByte (s.extract (j+1) s.size).data.toList 10≠ -1:=by simpa using h3
  omega
def zEq(s:ByteArray):Nat->Nat->Nat
 |0,j=>j
 |f+1,j=>if zH s j=2 then(if zFu s j<0 then s.size else zEq s f (zV s [1] (j+(zFu s j).toNat)))else j
def zEI(s:ByteArray)(i:Nat):Nat:=zEq s (s.size+1) (zV s [1] i)
theorem zQk(S:Nat)(s:ByteArray)(i:Int)(w:World)(h:zAd w S s)(hi:0<=i)(P:i<=s.size)(C:s.size<=140737488355328):
  Calls prog 76 #[.pointer (some ⟨S,0,none⟩),.int .i64 i] w λe w'=>e= .returned (.int .i64 (zEI s i.toNat))/\Bw w w':=by
 obtain⟨G,rfl⟩:∃k:Nat,i=k:=⟨i.toNat,by omega⟩;have O:=h.lt;have H:=hid h;clear h;have A:=λ(W:World)(k:Nat)(X:k<=s.size)(d:zAd W S s)=>zKO S s k (λ_=>True) (.slice (some ⟨W.heap.size,0,none⟩) 1 1) [1] (W.alloc (.cells #[.int .i64 1] 3)) (d.below (zF W _) d.lt) (by omega) (by omega) C (zUg W [1] 3 (by decide) (by simp[I64]));have J:=hid A;clear A;go_enter func76,ntmps76
 go_wp2_with fail
 refine(J.out _ G (by omega) H.out).mono ?_;rintro e w1 ⟨rfl,K,rfl⟩;simp only[Int.toNat_natCast];go_wp2;have z:=zBu s [1] (i:=G) (by omega);have v:Bw w ((w.alloc (.cells #[.int .i64 1] 3)).drewN K):=below_drewN' (zF w _) K;go_loopw[1] (λi wr=>∃j f:Nat,j<=s.size/\i= .int .i64 j/\Hid (zEq s f j=zEI s G)/\s.size<f+j/\Bw w wr) (λi _=>s.size+1-(intOf i).toNat);case atStart=>exact⟨_,s.size+1,z.2.1,rfl,rfl,by omega,v⟩
 case round=>
  clear z v;obtain⟨j,f,Q,rfl,E,V,c⟩:=hrel;have d:=H.out.below c O;have Z:=d.1;have o:=hid d;have I:=hid (λb=>(d.2 b));clear d;obtain⟨f,rfl⟩:∃M,f=M+1:=⟨f-1,by omega⟩;by_cases a:zH s j=2
  ·have R:j<s.size:=by
    rcases Nat.lt_or_ge j s.size with D|D
    ·exact D
    ·rw[zGc D]at a;omega
   have x:∀W:World,Calls prog 118 #[.string (s.extract j s.size),.int .u8 10] W λe w'=>e= .returned (.int .i64 (zFu s j))/\W=w':=λW=>by
    refine(Tryz.strings_IndexByte (s.extract j s.size) 10 W).mono ?_;rintro e w' ⟨rfl,rfl⟩;exact⟨rfl,rfl⟩
   have q:=hid x;clear x;have F:=zQj s Q;(have N:((zH s j)==(2:Int))=true:=by simp[a]);have L:=hid a;by_cases g:zFu s j<0
   ·(have t:Hid (zEq s (f+1) j=s.size):=by unfold zEq;rw[if_pos a,if_pos g];rfl);clear a
    go_wp2_with(first
     |(go_at_call 117;refine(zIQ S s j _ o.out (by omega) (by omega) C).mono ?_;rintro e w' ⟨rfl,n,rfl⟩;simp only[Int.toNat_natCast])
     |(go_at_call 118;refine(q.out _).mono ?_;rintro e w' ⟨rfl,rfl⟩))
    go_ret;exact⟨zAp (by rw[Int.toNat_natCast,<-E.out,t.out]),below_drewN' c _⟩
   ·have T:=zUh a g;obtain⟨m,B⟩:∃m:Nat,zFu s j=m:=⟨(zFu s j).toNat,by omega⟩;(have t:Hid (zEq s (f+1) j=zEq s f (zV s [1] (j+m))):=by rw[zEq,if_pos a,if_neg g,B,Int.toNat_natCast];rfl);rw[B]at F T g;have u:=hid (λW=>B▸q.out W);(have y:j+m<=s.size:=by omega);have U:=zBu s [1] y;clear a B q
    go_wp2_with(first
     |(go_at_call 117;refine(zIQ S s j _ o.out (by omega) (by omega) C).mono ?_;rintro e w' ⟨rfl,n,rfl⟩;simp only[Int.toNat_natCast])
     |(go_at_call 118;refine(u.out _).mono ?_;rintro e w' ⟨rfl,rfl⟩))
    refine(J.out _ (j+m) y (o.out.drewN _)).mono ?_;rintro e w2 ⟨rfl,Y,rfl⟩;simp only[Int.toNat_natCast];go_wp2;go_roundw;(case rel=>exact⟨_,f,U.2.1,rfl,by rw[Hid,<-t.out,E.out],by omega,below_drewN' ((below_drewN' c _).alloc (by simp;exact c.size) _) _⟩);case measure=>simp[intOf];omega
  ·(have N:((zH s j)==(2:Int))=false:=by simp[a]);(have t:Hid (zEq s (f+1) j=j):=by rw[zEq,if_neg a];rfl);clear a;go_wp2_with(go_at_call 117;refine(zIQ S s j _ o.out (by omega) (by omega) C).mono ?_;rintro e w' ⟨rfl,n,rfl⟩;simp only[Int.toNat_natCast]);go_ret;exact⟨zAp (by rw[Int.toNat_natCast,<-E.out,t.out]),below_drewN' c _⟩
end Go.Proofs.YthpocbeoanipbaaGreatDoor
