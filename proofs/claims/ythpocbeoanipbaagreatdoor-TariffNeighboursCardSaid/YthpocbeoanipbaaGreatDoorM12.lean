/- Texts W8 W9. -/
import Derived.Test.YthpocbeoanipbaaGreatDoorM1
import Derived.Test.YthpocbeoanipbaaGreatDoorM8
set_option linter.all false
namespace Go.Proofs.YthpocbeoanipbaaGreatDoor
open Go.RowKit Go.Proofs.Tryz
set_option maxHeartbeats 2000000
set_option maxRecDepth 100000
variable{B i:Nat}{P:Program}{s:ByteArray}{w:World}
def zS2:ByteArray:=⟨#[34,10]⟩
theorem zOE(q:ByteArray)(j:∀b∈q.data.toList,b.toNat<128)(w:World):
  Calls prog 152 #[.string q,.int .i32 65533] w λe w'=>e= .returned (.int .i64 (-1))/\Bw w w':=by
 have k:=hid j;clear j;go_enter func152,ntmps152
 go_wp2;go_loopg[5] q.size (λg _ o=>∃i:Nat,i+g=q.size/\o=w.iter q i)
 case atStart=>exact⟨0,by omega,rfl⟩
 case round=>
  obtain⟨i,m,rfl⟩:=hrel
  cases gk with
  |zero=>
   (obtain rfl:i=q.size:=by omega);(have c:=λh=>run_next_end (P:=prog) w q q.size h (by omega));go_wp2;go_ret;exact⟨rfl,(Below.refl _ _).alloc (Nat.le_refl _) _⟩
  |succ g=>
   (have f:i<q.size:=by omega);obtain⟨x,d⟩:∃x:UInt8,q[i]'f=x:=⟨_,rfl⟩;have a:x.toNat<128:=k.out x (List.mem_of_getElem? (by rw[zBI f,d]));(have c:=λh=>run_next_ascii (P:=prog) w q i h f (by rw[d];exact a));rw[d]at c;clear d;(have n:(((x.toNat:Nat):Int)==65533)=false:=by rw[beq_eq_false_iff_ne];omega);go_wp2;(go_roundg g);(case measure=>omega);case rel=>exact⟨i+1,by omega,rfl⟩
theorem zOF(w:World)(c:Int)(s:ByteArray)(a:s.size=0):Calls prog 118 #[.string s,.int .u8 c] w λe w'=>e= .returned (.int .i64 (-1))/\w=w':=by
 refine(Tryz.strings_IndexByte s c w).mono ?_;rintro e w' ⟨rfl,rfl⟩;have:s.data.toList=[]:=List.eq_nil_of_length_eq_zero (by simpa using a);rw[this];exact⟨rfl,rfl⟩
theorem zMg(q:ByteArray)(g:∀b∈q.data.toList,b.toNat<128)(y:q.size=2)(r:Int)(u:128<=r)(C:r<=2147483647)(w:World):
  Calls prog 152 #[.string q,.int .i32 r] w λe w'=>e= .returned (.int .i64 (-1))/\Bw w w':=by
 by_cases he:r=65533
 ·subst he;exact zOE q g w
 have x:(r==65533)=false:=by simpa using he
 have j:¬r<128:=by omega
 cases c:Lib.validRune r with
 |false=>
  have f:=hid c;clear c he g;go_enter func152,ntmps152
  go_wp2_with(go_at_call 182;refine(Tryz.utf8_ValidRune _ _).mono ?_;rintro e w' ⟨rfl,rfl⟩;rw[f.out]);go_ret;exact⟨rfl,Below.refl _ _⟩
 |true=>
  have f:=hid c
  have d:Utf8.valid r=true:=by
   rw[validRune_eq];have:=c;unfold Lib.validRune at this;unfold validRune;simp only[decide_eq_true_eq]at this⊢;exact this
  obtain⟨s,t,n⟩:=encode_facts r d u;have a:=n (by omega);have o:=hid g;clear c he d g n;have h:(Utf8.encode r).size <=9223372036854775807:=by omega
  by_cases v:3<=(Utf8.encode r).size
  ·(go_enter func152,ntmps152);go_wp2_with(go_at_call 182;refine(Tryz.utf8_ValidRune _ _).mono ?_;rintro e w' ⟨rfl,m⟩;subst m;rw[f.out]);go_step3;go_wp2;refine wp_loop_once ?_;(have A:¬((Utf8.encode r).size :Int)-1<2:=by omega);go_wp2;go_ret;exact⟨rfl,Below.refl _ _⟩
  ·(have i:(Utf8.encode r).size =2:=by omega);(have k:1<q.size:=by omega);(have z:1<(Utf8.encode r).size :=by omega);have D:q[1].toNat <128:=o.out _ (List.mem_of_getElem? (zBI k));have E:128<=((Utf8.encode r)[1]).toNat :=by simpa[i]using a
   have B:(((q[1].toNat :Nat):Int)!=(((Utf8.encode r)[1].toNat :Nat):Int))=true:=by
    rw[bne_iff_ne];omega
   clear a v s t h;(go_enter func152,ntmps152);go_wp2_with(go_at_call 182;refine(Tryz.utf8_ValidRune _ _).mono ?_;rintro e w' ⟨rfl,m⟩;subst m;rw[f.out]);go_step3;go_wp2;refine wp_loop_once ?_;go_wp2;go_step3;go_wp2;go_quiet(fail);go_wp2;go_quiet((go_at_call 118;exact zMf (zOF _ _ _ (by simp))));go_wp2;rw[Exit.noGoto_ret];go_wp2
   (try(rw[Exit.noGoto_ret];go_wp2))
   go_ret;exact⟨rfl,below_drewN' (Below.refl _ _) _⟩
theorem zUq{x:UInt8}(h:(x.toNat / 64==2)=true):128<=x.toNat:=by
 have:x.toNat / 64=2:=by simpa using h
 omega
theorem zTk(s:ByteArray)(i:Nat)(h:i<s.size):s.get! i=s[i]:=by
 have:=get_at s i h;simpa using this
theorem zPb(s:ByteArray)(i:Nat)(h:i<s.size)(q:128<=(s[i]).toNat):
  i+(Utf8.decode s i).2<=s.size/\∀j,i<=j->j<i+(Utf8.decode s i).2->∃n:j<s.size,128<=(s[j]).toNat :=by
 have c:∀k,(decide (i+k<s.size)&&(s.get! (i+k)).toNat / 64==2)=true->∃n:i+k<s.size,128<=(s[i+k]).toNat :=by
  intro k v;rw[Bool.and_eq_true]at v;have o:i+k<s.size:=by simpa using v.1
  exact⟨o,zUq (by rw[<-zTk s _ o];exact v.2)⟩
 have z:¬(s.get! (i+0)).toNat <128:=by rw[get_at s i h];omega
 unfold Utf8.decode;simp only[z,if_false]
 have d:i+1<=s.size/\∀j,i<=j->j<i+1->∃n:j<s.size,128<=(s[j]).toNat :=
  ⟨h,λj a b=>by
   obtain rfl:j=i:=by omega
   exact⟨h,q⟩⟩
 split
 ·rename_i h1;rw[Bool.and_eq_true]at h1;obtain⟨f,m⟩:=c 1 h1.2
  have w:i+2<=s.size/\∀j,i<=j->j<i+2->∃n:j<s.size,128<=(s[j]).toNat :=
   ⟨f,λj a b=>by
    rcases(by omega:j=i\/j=i+1)with rfl|rfl
    ·exact⟨h,q⟩
    ·exact⟨f,m⟩⟩
  split
  ·exact w
  ·exact d
 ·split
  ·rename_i h1;rw[Bool.and_eq_true,Bool.and_eq_true]at h1;obtain⟨f,m⟩:=c 1 h1.1.2;obtain⟨t,u⟩:=c 2 h1.2
   have e:i+3<=s.size/\∀j,i<=j->j<i+3->∃n:j<s.size,128<=(s[j]).toNat :=
    ⟨t,λj a b=>by
     rcases(by omega:j=i\/j=i+1\/j=i+2)with rfl|rfl|rfl
     ·exact⟨h,q⟩
     ·exact⟨f,m⟩
     ·exact⟨t,u⟩⟩
   split
   ·exact e
   ·exact d
  ·split
   ·rename_i h1;rw[Bool.and_eq_true,Bool.and_eq_true,Bool.and_eq_true]at h1;obtain⟨f,m⟩:=c 1 h1.1.1.2;obtain⟨t,u⟩:=c 2 h1.1.2;obtain⟨x,y⟩:=c 3 h1.2
    have g:i+4<=s.size/\∀j,i<=j->j<i+4->∃n:j<s.size,128<=(s[j]).toNat :=
     ⟨x,λj a b=>by
      rcases(by omega:j=i\/j=i+1\/j=i+2\/j=i+3)with rfl|rfl|rfl|rfl
      ·exact⟨h,q⟩
      ·exact⟨f,m⟩
      ·exact⟨t,u⟩
      ·exact⟨x,y⟩⟩
    split
    ·exact g
    ·exact d
   ·exact d
theorem zLb{l c:List UInt8}:∀(n i:Nat),Lib.NoAny l c i->(∀j,i<=j->j<i+n->∃x,l[j]? =some x/\c.contains x=false)->Lib.NoAny l c (i+n)
 |0,_,h,_=>h
 |n+1,i,h,hx=>by
  obtain⟨x,d,e⟩:=hx i (Nat.le_refl _) (by omega);have:=zLb n (i+1) (h.succ d e) (λj a b=>hx j (by omega) (by omega));rwa[show i+1+n=i+(n+1) from by omega]at this
theorem run_next_at(w:World)(B:Nat)(s:ByteArray)(a:Nat)(ty:TypeId)(b:w.heap[B]? =some (.stringIter s a))(h:a<s.size):
  (Instr.next (.pointer (some ⟨B,0,none⟩)) true ty).run P w=
   .ok (.tuple #[.bool true,.int .i64 a,.int .i32 (Utf8.decode s a).1]) (ChangeMaps.setBlock w B (.stringIter s (a+(Utf8.decode s a).2))):=by
 simp only[Instr.next,getObj,setObj,Sem.run_bind,Sem.run,b,Result.andThen,h,if_true];simp[goInt,ChangeMaps.setBlock]
theorem zLc(w:World)(B:Nat)(s:ByteArray)(a:Nat)(ty:TypeId)(b:w.heap[B]? =some (.stringIter s a))(h:¬a<s.size):
  (Instr.next (.pointer (some ⟨B,0,none⟩)) true ty).run P w= .ok (.tuple #[.bool false]) w:=by
 simp[Instr.next,getObj,Sem.run,b,h]
theorem zMh{o o':Obj}(h:w.heap[B]? =some o):(ChangeMaps.setBlock w B o').heap[B]? =some o'/\zA (λb=>b≠B) w (ChangeMaps.setBlock w B o')/\(ChangeMaps.setBlock w B o').heap.size =w.heap.size:=by
 have a:=(Array.getElem?_eq_some_iff.1 h).1;refine⟨by simp[ChangeMaps.setBlock,a],⟨rfl,rfl,rfl,by simp[ChangeMaps.setBlock],λk _ c=> ?_⟩,by simp[ChangeMaps.setBlock]⟩;simp only[ChangeMaps.setBlock,Array.getElem?_setIfInBounds];rw[if_neg (λe=>c e.symm)]
theorem zMi(q:ByteArray)(U:∀b∈q.data.toList,b.toNat<128)(F:q.size=2)(s:ByteArray)(h8:s.size<=8)(w:World):
  Calls prog 120 #[.string s,.string q] w λe w'=>e= .returned (.int .i64 (Lib.indexAny s.data.toList q.data.toList))/\Bw w w':=by
 have O:=hid U;clear U
 have R:q.toList.isEmpty=false:=by
  rw[ByteArray.toList_eq]
  cases h:q.data.toList with
  |nil=>
   (have T:q.data.toList.length=2:=by simpa using F);rw[h]at T;simp at T
  |cons _ _=>rfl
 have af:((q.size:Int)==1)=false:=beq_eq_false_iff_ne.2 (by omega);have K:decide ((8:Int)<(s.size:Int))=false:=decide_eq_false (by omega);go_enter func120,ntmps120
 go_wp2_with(go_at_call 153;refine(Tryz.strings_shouldUseASCIISet _ _).mono ?_;rintro e w' ⟨rfl,G⟩;rw[G,K]);go_loopg[9,10] s.size (λg _ _ V=>∃i:Nat,i<=s.size/\s.size<=i+g/\Bw w V/\V.heap[w.heap.size]? =some (.stringIter s i)/\Hid (Lib.NoAny s.data.toList q.data.toList i))
 case atStart=>exact⟨0,Nat.zero_le _,Nat.le_add_left _ _,zF w _,World.iter_heap _ _ _,Lib.NoAny.zero _ _⟩
 case round=>
  obtain⟨i,ab,ac,m,z,o⟩:=hrel;by_cases A:i<s.size
  ·obtain⟨g,rfl⟩:∃Y,gk=Y+1:=⟨gk-1,by omega⟩;(have E:=λN=>run_next_at (P:=prog) wr w.heap.size s i N z A);obtain⟨I,X,f3⟩:=zMh (o':= .stringIter s (i+(Utf8.decode s i).2)) z;have d:Bw w (ChangeMaps.setBlock wr w.heap.size (.stringIter s (i+(Utf8.decode s i).2))):=zd m X (Nat.le_refl _) m.size;generalize ChangeMaps.setBlock wr w.heap.size (.stringIter s (i+(Utf8.decode s i).2))=w1 at*;have D:w.heap.size<w1.heap.size:=(Array.getElem?_eq_some_iff.1 I).1;by_cases hx:(s[i]).toNat <128
   ·have L:=decode_ascii s i A hx;have v:=congrArg Prod.fst L;have y:=congrArg Prod.snd L;simp only at v y;rw[v]at E;rw[y]at I;have H:s.data.toList[i]? =some s[i]:=zBI A;have Hx:=hid H;clear H L v y;generalize s[i]=x at*;have c:=Lib.contains_iff_indexByte q.data.toList x;(have k:((x.toNat:Int)).toNat.toUInt8 =x:=by simp);have B:=hid k;clear k
    cases f:q.data.toList.contains x with
    |false=>
     have u:=hid f;rw[f]at c;have ae:¬((0:Int)<=Lib.indexByte q.data.toList x):=of_decide_eq_false c.symm;clear c f;go_wp2_with(go_at_call 152;refine(Tryz.strings_IndexRune_ascii _ _ _ (by omega) (by omega)).mono ?_;rintro e w' ⟨rfl,G⟩;rw[G,B.out]);(go_roundg g);(case measure=>omega);case rel=>exact⟨i+1,by omega,by omega,d,I,o.out.succ Hx.out u.out⟩
    |true=>
     have u:=hid f;rw[f]at c;have aa:(0:Int)<=Lib.indexByte q.data.toList x:=of_decide_eq_true c.symm;clear c f;go_wp2_with(go_at_call 152;refine(Tryz.strings_IndexRune_ascii _ _ _ (by omega) (by omega)).mono ?_;rintro e w' ⟨rfl,G⟩;rw[G,B.out]);go_ret;exact⟨zAp (by rw[Lib.indexAny_hit o.out Hx.out u.out]),d⟩
   ·obtain⟨d1,d2⟩:=decode_high s i A (by omega);have d3:=decode_le s i;obtain⟨W,Q⟩:=zPb s i A (by omega)
    have t:Lib.NoAny s.data.toList q.data.toList (i+(Utf8.decode s i).2):=zLb _ i o.out (λj a b=>by
     obtain⟨hj,ad⟩:=Q j a b;refine⟨s[j],zBI hj,?_⟩
     cases Z:q.data.toList.contains s[j]with
     |false=>rfl
     |true=>
      have:=O.out s[j] (by simpa using Z)
      omega)
    have J:=hid t;clear t Q o;generalize (Utf8.decode s i).1=r at*;generalize (Utf8.decode s i).2=n at*;(have M:(r:Int)<=2147483647:=by omega);go_wp2_with(go_at_call 152;refine(zMg q O.out F _ (by omega) M _).mono ?_;rintro e w2 ⟨rfl,C⟩);(go_roundg g);(case measure=>omega);case rel=>exact⟨i+n,W,by omega,d.trans (C.mono (by omega)),(C.block _ D).trans I,J.out⟩
  ·(obtain rfl:i=s.size:=by omega);(have E:=λN=>zLc (P:=prog) wr w.heap.size s s.size N z A);go_wp2;go_ret;exact⟨zAp (by rw[Lib.indexAny_none (by simpa using o.out)]),m⟩
theorem Tryz.zero206(w:World):(zeroValue 232).run prog w= .ok (.agg (Array.replicate 256 (.bool false))) w:=by kernel_rfl
theorem zQo(q:ByteArray)(c:∀b∈q.data.toList,b.toNat<128)(a:q.size=2)(s:ByteArray)(g:s.size<=20000)(w:World):
  Calls prog 120 #[.string s,.string q] w λe w'=>e= .returned (.int .i64 (Lib.indexAny s.data.toList q.data.toList))/\Bw w w':=by
 by_cases d:s.size<=8
 ·exact zMi q c a s d w
 ·refine(Tryz.strings_IndexAny_long Tryz.zero206 s q w (by omega) (by omega) (by omega) (by omega) (λj b f=>c b (List.mem_of_getElem? f))).mono ?_;rintro e w' ⟨rfl,rfl⟩;exact⟨rfl,.alloc (.alloc (.refl _ _) (Nat.le_refl _) _) (by simp) _⟩
structure Tok where
 kind:Int
 pos:Int
 num:Int
 text:ByteArray
def Tok.cells(t:Tok):List Value:=[.int .i64 t.kind,.int .i64 t.pos,.int .i64 t.num,.string t.text]
def zCY:Tok:=⟨0,0,0,⟨#[]⟩⟩
def numOf(s:ByteArray):Int:=(Lib.atoi s.data.toList).getD 0
def zq(s:ByteArray)(i:Nat):Tok × Int × Int:=
 if zH s i=3 then
  (if 24<zV s [3,4,5] i-i then((zCY,0,2):Tok × Int × Int)else(⟨1,i,0,s.extract i (zV s [3,4,5] i)⟩,((zV s [3,4,5] i:Nat):Int),0):Tok × Int × Int)
 else if zH s i=4 then
  (if 13<zV s [4] i-i\/zH s (zV s [4] i)=3\/zH s (zV s [4] i)=5 then(zCY,0,4)else(⟨2,i,numOf (s.extract i (zV s [4] i)),s.extract i (zV s [4] i)⟩,zV s [4] i,0))
 else if zH s i=6 then
  (if Lib.indexAny (s.extract (i+1) s.size).data.toList [34,10]<0\/(s.extract (i+1) s.size).data.toList[(Lib.indexAny (s.extract (i+1) s.size).data.toList [34,10]).toNat]? =some 10 then(zCY,0,6)
   else if 400<Lib.indexAny (s.extract (i+1) s.size).data.toList [34,10]then(zCY,0,2)
   else(⟨3,i,0,(s.extract (i+1) s.size).extract 0 (Lib.indexAny (s.extract (i+1) s.size).data.toList [34,10]).toNat⟩,i+Lib.indexAny (s.extract (i+1) s.size).data.toList [34,10]+2,0))
 else if zH s i=7\/zH s i=8 then
  (if Lib.hasPrefix (s.extract (i+1) s.size).data.toList [61]=true then(⟨4,i,0,s.extract i (i+2)⟩,i+2,0)
   else if zH s i=7 then(zCY,0,3)else(⟨4,i,0,s.extract i (i+1)⟩,i+1,0))
 else if zH s i=9 then(⟨4,i,0,s.extract i (i+1)⟩,i+1,0)
 else(zCY,0,3)
def zDK(s:ByteArray)(i:Nat)(w:World)(e:Ending)(w':World):Prop:=
 e= .returned (.tuple #[.agg (Tok.cells (zq s i).1).toArray,.int .i64 (zq s i).2.1,.int .i64 (zq s i).2.2])/\Bw w w'
theorem zAn{w w':World}{t:Tok}{n e:Int}(h:zq s i=(t,n,e))(a:Bw w w'):
  zDK s i w (.returned (.tuple #[.agg (Tok.cells t).toArray,.int .i64 n,.int .i64 e])) w':=by
 unfold zDK;rw[h];exact⟨rfl,a⟩
theorem zFH(S:Nat)(s:ByteArray)(i:Nat)(w:World)(h:zAd w S s)(a:i<=140737488355328)(b:s.size<=140737488355328):
  Calls prog 117 #[.pointer (some ⟨S,0,none⟩),.int .i64 (i:Int)] w λe w'=>e= .returned (.int .i64 (zH s i))/\∃n,w'=w.drewN n:=by
 have:=zIQ S s i w h (by omega) (by omega) b;simpa using this
theorem zAd.alloc{S:Nat}(h:zAd w S s)(o:Obj):zAd (w.alloc o) S s:=h.below (zF w o) h.lt
theorem zO2{W:World}{t:TypeId}{a:List Int}(b:Blk W B t (a.map (.int .i64)).toArray)(e:a.length<=1000)(c:∀x∈a,I64 x):zK (λ_=>True) W (.slice (some ⟨B,0,none⟩) a.length a.length) a:=
 ⟨⟨_,_,rfl,Nat.le_refl _,by omega,by omega,λ_=>⟨B,0,rfl,trivial,λj u d=>by rw[b.cell];simpa using d⟩⟩,c⟩
theorem zS3(S:Nat)(s:ByteArray)(i B:Nat)(W:World)(h:zAd W S s)(a:Blk W B 3 #[.int .i64 3,.int .i64 4,.int .i64 5])(b:i<=s.size)(c:s.size<=140737488355328):
  Calls prog 116 #[.pointer (some ⟨S,0,none⟩),.int .i64 (i:Int),.slice (some ⟨B,0,none⟩) 3 3] W λe w'=>e= .returned (.int .i64 (zV s [3,4,5] i))/\∃n,w'=W.drewN n:=by
 have:=zKO S s i (λ_=>True) _ [3,4,5] W h (by omega) (by omega) c (zO2 a (by decide) (by simp[I64]));simpa using this
theorem zUr(S:Nat)(s:ByteArray)(i B:Nat)(W:World)(h:zAd W S s)(a:Blk W B 3 #[.int .i64 4])(b:i<=s.size)(c:s.size<=140737488355328):
  Calls prog 116 #[.pointer (some ⟨S,0,none⟩),.int .i64 (i:Int),.slice (some ⟨B,0,none⟩) 1 1] W λe w'=>e= .returned (.int .i64 (zV s [4] i))/\∃n,w'=W.drewN n:=by
 have:=zKO S s i (λ_=>True) _ [4] W h (by omega) (by omega) c (zO2 a (by decide) (by simp[I64]));simpa using this
theorem zBv(w:World)(o:Obj)(t:TypeId)(cs:Array Value):Blk ((w.alloc o).alloc (.cells cs t)) (w.heap.size+1) t cs:=by
 have:=Blk.new (w.alloc o) t cs;simpa using this
theorem zPc(S:Nat)(s:ByteArray)(i:Nat)(w:World)(h:zAd w S s)(hi:i<s.size)(y:s.size<=20000)(c:zH s i=3):
  Calls prog 77 #[.pointer (some ⟨S,0,none⟩),.int .i64 (i:Int)] w (zDK s i w):=by
 have x:=h.lt;have f:=zBu s [3,4,5] (i:=i) (by omega);have q:=f.1;have t:=f.2.1
 have j:zq s i=(if 24<zV s [3,4,5] i-i then((zCY,0,2):Tok × Int × Int)else((⟨1,i,0,s.extract i (zV s [3,4,5] i)⟩,((zV s [3,4,5] i:Nat):Int),0):Tok × Int × Int)):=by
  unfold zq;rw[if_pos c]
 have a:=hid j;have H:=hid h;have m:=hid c;have A:=h.1;have b:=hid (λW B h o=>zS3 S s i B W h o (by omega) (by omega));clear f j c h;generalize zV s [3,4,5] i=k at*;go_enter func77,ntmps77
 go_wp2_with fail
 refine(zFH S s i _ (.alloc H.out _) (by omega) (by omega)).mono ?_;rintro e u ⟨rfl,n,rfl⟩;rw[m.out];go_wp2_with fail
 refine(b.out _ _ (.drewN (.alloc (.alloc H.out _) _) _) (.drewN (zBv _ _ _ _) _)).mono ?_;rintro e u ⟨rfl,z,rfl⟩;by_cases g:24<k-i
 ·have d:(24:Int)<(k:Int)-(i:Int):=by omega
  rw[if_pos g]at a;go_wp2;refine bodyPost_ret (v:= .tuple #[.agg (Tok.cells zCY).toArray,.int .i64 0,.int .i64 2]) (by simp[results,results77,go_sem];rfl) rfl (zAn a.out (by exact blw))
 ·have d:¬(24:Int)<(k:Int)-(i:Int):=by omega
  rw[if_neg g]at a;go_wp2;refine bodyPost_ret (v:= .tuple #[.agg (Tok.cells ⟨1,i,0,s.extract i k⟩).toArray,.int .i64 (k:Int),.int .i64 0]) (by simp[results,results77,go_sem];rfl) rfl (zAn a.out (by exact blw))
theorem zQp{a:Addr}{n:Nat}{k:Nat}(h:k≠a.block):(w.freeze a n).heap[k]? =w.heap[k]? :=by
 unfold World.freeze;split
 ·rfl
 ·simp only[Array.getElem?_modify];rw[if_neg (λe=>h e.symm)]
theorem below_bytesWorld(w:World)(e:TypeId)(t:ByteArray):Bw w (Lib.bytesWorld w e t):=by
 unfold Lib.bytesWorld;refine⟨?_,?_,?_,?_,λk a=> ?_⟩
 ·unfold World.freeze;split<;>rfl
 ·unfold World.freeze;split<;>rfl
 ·unfold World.freeze;split<;>rfl
 ·unfold World.freeze;split<;>simp
 ·rw[zQp (by simp;omega),Below.heap_alloc _ _ _ (by simpa using a)];rfl
theorem zIF:∀(l:List UInt8)(acc:Nat),(∀b∈l,48<=b.toNat/\b.toNat<=57)->∃v,Lib.decFrom acc l=some v
 |[],acc,_=>⟨acc,rfl⟩
 |b::r,acc,h=>by
  obtain⟨v,a⟩:=zIF r (acc*10+(b.toNat-48)) (λx c=>h x (List.mem_cons_of_mem _ c));refine⟨v,?_⟩;unfold Lib.decFrom Lib.digitVal;rw[if_pos (h b (List.mem_cons_self ..))];exact a
theorem zPd{l:List UInt8}(c:l≠[])(h:∀b∈l,48<=b.toNat/\b.toNat<=57):Lib.atoi l=some ((Lib.atoi l).getD 0):=by
 cases l with
 |nil=>exact absurd rfl c
 |cons b r=>
  have a:=h b (List.mem_cons_self ..);obtain⟨v,g⟩:=zIF (b::r) 0 h;have d:(b==45)=false:=by rw[beq_eq_false_iff_ne];intro e;rw[e]at a;simp at a
  have f:(b==43)=false:=by rw[beq_eq_false_iff_ne];intro e;rw[e]at a;simp at a
  unfold Lib.atoi;simp only[d,f,Bool.false_eq_true,if_false];unfold Lib.decNat;simp[g]
theorem zS4(x:ByteArray)(c:x.size<=18)(a:x.data.toList≠[])(h:∀b∈x.data.toList,48<=b.toNat/\b.toNat<=57)(W:World):
  Calls prog 119 #[.string x] W λe w'=>e= .returned (.tuple #[.int .i64 (numOf x),.nilIface])/\Bw W w':=by
 refine(Tryz.strconv_Atoi x (numOf x) c (zPd a h) W).mono ?_;rintro e w' ⟨rfl,t,rfl⟩;exact⟨rfl,below_bytesWorld _ _ _⟩
theorem zOG{b:UInt8}(h:zCa b=4):48<=b.toNat/\b.toNat<=57:=by
 unfold zCa at h;split at h
 ·omega
 ·split at h
  ·assumption
  ·(repeat(split at h; · omega));omega
theorem zQq(hi:i<=s.size):∀b∈(s.extract i (zV s [4] i)).data.toList,48<=b.toNat/\b.toNat<=57:=by
 intro b c;obtain⟨g,h,d,_⟩:=zBu s [4] hi;rw[Lib.extract_data]at c;obtain⟨j,f,rfl⟩:=List.getElem_of_mem c;simp only[List.length_take,List.length_drop,Array.length_toList,ByteArray.size_data]at f;have a:i+j<s.size:=by omega
 have:=d (i+j) (by omega) (by omega);rw[zD6 a]at this;have e:zCa s[i+j]=4:=by simpa using this
 simp only[List.getElem_take,List.getElem_drop];exact zOG e
theorem zQr(S:Nat)(s:ByteArray)(i:Nat)(w:World)(h:zAd w S s)(hi:i<s.size)(Y:s.size<=20000)(o:zH s i=4):
  Calls prog 77 #[.pointer (some ⟨S,0,none⟩),.int .i64 (i:Int)] w (zDK s i w):=by
 have X:=h.lt;have q:=zBu s [4] (i:=i) (by omega);have K:=q.1;have L:=q.2.1
 have M:i<zV s [4] i:=by
  rcases Nat.lt_or_ge i (zV s [4] i)with h'|h'
  ·exact h'
  ·(have e:zV s [4] i=i:=by omega);have:=q.2.2.2 (by omega);rw[e,o]at this;simp at this
 have z:=zQq (s:=s) (i:=i) (by omega)
 have A:zq s i=(if 13<zV s [4] i-i\/zH s (zV s [4] i)=3\/zH s (zV s [4] i)=5 then((zCY,0,4):Tok × Int × Int)else((⟨2,i,numOf (s.extract i (zV s [4] i)),s.extract i (zV s [4] i)⟩,((zV s [4] i:Nat):Int),0):Tok × Int × Int)):=by
  unfold zq;rw[if_neg (by omega),if_pos o]
 have d:=hid A;have H:=hid h;have E:=hid o;have s0:=h.1;have u:=hid (λW B h J=>zUr S s i B W h J (by omega) (by omega));have F:=hid z;clear q A o h z;generalize zV s [4] i=k at*;generalize g:zH s k=c2 at*;have t:=hid g;clear g;go_enter func77,ntmps77
 go_wp2_with fail
 refine(zFH S s i _ (.alloc H.out _) (by omega) (by omega)).mono ?_;rintro e C ⟨rfl,n,rfl⟩;rw[E.out];go_wp2_with fail
 refine(u.out _ _ (.drewN (.alloc (.alloc H.out _) _) _) (.drewN (zBv _ _ _ _) _)).mono ?_;rintro e C ⟨rfl,Z,rfl⟩;go_wp2_with fail
 refine(zFH S s k _ (.drewN (.alloc (.alloc H.out _) _) _) (by omega) (by omega)).mono ?_;rintro e C ⟨rfl,n3,rfl⟩;rw[t.out];by_cases x:13<k-i
 ·have f:decide ((13:Int)<(k:Int)-(i:Int))=true:=by simp;omega
  rw[if_pos (Or.inl x)]at d;go_wp2;refine bodyPost_ret (v:= .tuple #[.agg (Tok.cells zCY).toArray,.int .i64 0,.int .i64 4]) (by simp[results,results77,go_sem];rfl) rfl (zAn d.out (by exact blw))
 ·have f:decide ((13:Int)<(k:Int)-(i:Int))=false:=by simp;omega
  by_cases j:c2=3
  ·rw[if_pos (Or.inr (Or.inl j))]at d;subst j;go_wp2;refine bodyPost_ret (v:= .tuple #[.agg (Tok.cells zCY).toArray,.int .i64 0,.int .i64 4]) (by simp[results,results77,go_sem];rfl) rfl (zAn d.out (by exact blw))
  ·(have G:(c2==(3:Int))=false:=by simp[j]);by_cases m:c2=5
   ·rw[if_pos (Or.inr (Or.inr m))]at d;subst m;go_wp2;refine bodyPost_ret (v:= .tuple #[.agg (Tok.cells zCY).toArray,.int .i64 0,.int .i64 4]) (by simp[results,results77,go_sem];rfl) rfl (zAn d.out (by exact blw))
   ·(have I:(c2==(5:Int))=false:=by simp[m]);rw[if_neg (by rintro(a|a|a)<;>contradiction)]at d;clear j m;go_wp2_with fail
    refine(zS4 _ (by simp;omega) (by
     intro he;have:=congrArg List.length he;rw[Lib.extract_data]at this;simp at this
     omega) F.out _).mono ?_
    rintro e D ⟨rfl,b⟩;have c:Blk D w.heap.size 102 #[.int .i64 0,.int .i64 0,.int .i64 0,.string ⟨#[]⟩]:=Blk.below (.drewN (.alloc (Blk.new w _ _) _) _) b (by simp;omega);have s3:=(zAd.below (.drewN (.alloc (.alloc H.out _) _) _) b (by simp;omega)).1;have N:=c.at0;have O:=c.at1;have P:=c.at2;have Q:=c.at3;have R:=c.frozen 0;have T:=c.frozen 1;have U:=c.frozen 2;have V:=c.frozen 3;clear c;have y:Bw w D:= .trans (below_drewN' (.alloc (.alloc (.refl _ _) (Nat.le_refl _) _) (by simp) _) _) (b.mono (by simp;omega));clear b;go_wp2;refine bodyPost_ret (v:= .tuple #[.agg (Tok.cells ⟨2,i,numOf (s.extract i k),s.extract i k⟩).toArray,.int .i64 (k:Int),.int .i64 0]) (by simp[results,results77,go_sem,N,O,P,Q];rfl) rfl (zAn d.out (by exact blw))
end Go.Proofs.YthpocbeoanipbaaGreatDoor
