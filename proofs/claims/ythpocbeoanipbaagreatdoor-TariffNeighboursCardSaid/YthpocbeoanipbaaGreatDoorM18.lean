/- Texts PI W13 W14 W15 W16 W17 W18 W19 K W20 CF CG TL. -/
import Derived.Test.YthpocbeoanipbaaGreatDoorM16
import Derived.Test.YthpocbeoanipbaaGreatDoorM4
import Derived.Test.YthpocbeoanipbaaGreatDoorM11
import Derived.Deep.RegionWith
import Derived.Lib.AtoiBound
set_option linter.all false
namespace Go.Proofs.YthpocbeoanipbaaGreatDoor
open Go.RowKit Go.Proofs.Tryz
set_option maxHeartbeats 4000000
set_option maxRecDepth 100000
variable{B base g i:Nat}{W w w':World}{Z:zE}{b:UInt8}{cs:List Value}{ds:List zC}{f k:Fm}{fs ks l:List Fm}{n nm s:ByteArray}{op:Int}{t:TypeId}{v:Value}
def zCf(s:ByteArray):Bool:=match zJ s with
 |([t],0,_)=>t.kind==1&&decide (t.text=s)
 | _=>false
def zKP(s:ByteArray)(t:Tok):Prop:=t.kind=1->∃i k,t.text=s.extract i k/\i<k/\k<=s.size/\k-i<=24/\zH s i=3/\∀j,i<=j->j<k->[3,4,5].contains (zH s j)=true
theorem zRN(hi:i<s.size):zKP s (zq s i).1:=by
 intro a;unfold zq at a⊢;by_cases b:zH s i=3
 ·rw[if_pos b]at a⊢;by_cases d:24<zV s [3,4,5] i-i
  ·rw[if_pos d]at a;simp[zCY]at a
  ·rw[if_neg d];obtain⟨j,f,g,h⟩:=zBu s [3,4,5] (i:=i) (by omega)
   have c:i<zV s [3,4,5] i:=by
    rcases Nat.lt_or_ge i (zV s [3,4,5] i)with h'|h'
    ·exact h'
    ·(have e:zV s [3,4,5] i=i:=by omega);have:=h (by omega);rw[e,b]at this;simp at this
   exact⟨i,_,rfl,c,f,by omega,b,g⟩
 ·rw[if_neg b]at a;exfalso;revert a
  repeat' split
  all_goals simp[zCY]
theorem zLi{s:ByteArray}:∀f i acc,(∀t∈acc,zKP s t)->∀t∈(zDL s f i acc).1,zKP s t
 |0,_,acc,h=>h
 |f+1,i,acc,h=>by
  unfold zDL;by_cases b:i<s.size
  ·rw[if_pos b];split
   ·simp
   ·split
    ·simp
    ·refine zLi f _ _ (λt a=> ?_);rw[List.mem_append]at a;rcases a with a|a
     ·exact h t a
     ·simp at a;rw[a];exact zRN b
  ·rw[if_neg b];exact h
theorem zRO:∀t∈(zJ s).1,zKP s t:=by
 unfold zJ;split
 ·simp
 ·exact zLi _ _ _ (by simp)
theorem zKg:[3,4,5].contains (zCa b)=(zBg b||zGb b):=by
 have a:∀n:Fin 256,([3,4,5].contains (zCa (UInt8.ofNat n.val)):Bool)=(zBg (UInt8.ofNat n.val)||zGb (UInt8.ofNat n.val)):=by decide+kernel
 have:=a ⟨b.toNat,b.toNat_lt⟩;rwa[UInt8.ofNat_toNat]at this
theorem zNN:zCa b=3↔zBg b=true:=by
 have a:∀n:Fin 256,decide (zCa (UInt8.ofNat n.val)=3)=zBg (UInt8.ofNat n.val):=by decide+kernel
 have:=a ⟨b.toNat,b.toNat_lt⟩;rw[UInt8.ofNat_toNat]at this;rw[<-this];simp
theorem zLj:zBZ s.data.toList=true↔0<s.size/\s.size<=24/\zH s 0=3/\∀j,j<s.size->[3,4,5].contains (zH s j)=true:=by
 have d:s.data.toList.length=s.size:=by simp
 constructor
 ·intro h
  cases a:s.data.toList with
  |nil=>rw[a]at h;simp[zBZ]at h
  |cons c r=>
   rw[a]at h d;unfold zBZ at h;rw[Bool.and_eq_true,Bool.and_eq_true]at h;obtain⟨⟨m,n⟩,g⟩:=h;have f:0<s.size:=by rw[<-d];simp
   have k:s[0]=c:=by
    have:=zBI f;rw[a]at this;simpa using this.symm
   refine⟨f,by rw[<-d];simpa using g,by rw[zD6 f,k];exact zNN.2 m,λj i=> ?_⟩;rw[zD6 i,zKg];have b:=zBI i;rw[a]at b
   cases j with
   |zero=>simp at b;rw[<-b,m];rfl
   |succ j=>simp at b;exact(List.all_eq_true.1 n) _ (List.mem_of_getElem? b)
 ·rintro⟨f,h24,g,h⟩
  cases a:s.data.toList with
  |nil=>rw[a]at d;simp at d;omega
  |cons c r=>
   have k:s[0]=c:=by
    have:=zBI f;rw[a]at this;simpa using this.symm
   unfold zBZ;rw[zD6 f,k]at g;rw[Bool.and_eq_true,Bool.and_eq_true];refine⟨⟨zNN.1 g,?_⟩,?_⟩
   ·rw[List.all_eq_true];intro x o;obtain⟨j,i,rfl⟩:=List.getElem_of_mem o;rw[a]at d;(have e:j+1<s.size:=by rw[<-d];simp;omega);have:=h (j+1) e;rw[zD6 e,zKg]at this;have b:=zBI e;rw[a]at b;simp[i]at b;rw[b];exact this
   ·rw[a]at d;simp only[decide_eq_true_eq];omega
theorem extract_all(s:ByteArray):s.extract 0 s.size=s:=by
 have:(s.extract 0 s.size).data.toList =s.data.toList:=by
  rw[Lib.extract_data];simp;exact List.take_of_length_le (by simp)
 cases s;rename_i d;have a:=Array.toList_inj.1 this;cases he:ByteArray.extract ⟨d⟩ 0 (ByteArray.size ⟨d⟩);rw[he]at a;simpa using a
theorem zSi(s:ByteArray):zCf s=zBZ s.data.toList:=by
 rw[Bool.eq_iff_iff];constructor
 ·intro h;have z:=zRO (s:=s);unfold zCf at h;split at h
  ·rename_i t x heq;rw[Bool.and_eq_true]at h;(have G:t.kind=1:=by simpa using h.1);(have I:t.text=s:=by simpa using h.2);obtain⟨i,k,y,B,e,J,D,E⟩:=z t (by rw[heq];simp) G;rw[I]at y
   have H:s.size=k-i:=by
    have:=congrArg ByteArray.size y;simp at this;omega
   (obtain rfl:i=0:=by omega);(obtain rfl:k=s.size:=by omega);exact zLj.2 ⟨B,by omega,D,λj F=>E j (Nat.zero_le _) F⟩
  ·simp at h
 ·intro h;obtain⟨A,C,e,h⟩:=zLj.1 h;have u:zV s [1] 0=0:=zGH (Nat.le_refl _) (by omega) (λj a b=>by omega) (λ_=>by rw[e];rfl);have v:zV s [3,4,5] 0=s.size:=zGH (Nat.zero_le _) (Nat.le_refl _) (λj _ b=>h j b) (λo=>absurd o (Nat.lt_irrefl _));have w:zV s [1] s.size=s.size:=zGH (Nat.le_refl _) (Nat.le_refl _) (λj a b=>by omega) (λo=>absurd o (Nat.lt_irrefl _))
  have g:zEI s 0=0:=by
   unfold zEI;rw[u,zEq,if_neg (by rw[e];decide)]
  have m:zEI s s.size=s.size:=by
   unfold zEI;rw[w,zEq,if_neg (by rw[zGc (Nat.le_refl _)];decide)]
  have q:zq s 0=(⟨1,0,0,s⟩,(s.size:Int),0):=by
   unfold zq;rw[if_pos e,v,if_neg (by omega),extract_all];rfl
  have d:zJ s=([⟨1,0,0,s⟩],0,0):=by
   unfold zJ;rw[if_neg (by omega),g,zDL,if_pos A,q];simp only[List.length_nil,List.nil_append];rw[if_neg (by omega),if_neg (by omega),Int.toNat_natCast,m];obtain⟨n,z⟩:∃n,s.size=n+1:=⟨s.size-1,by omega⟩
   have:∀f c,zDL s f s.size c=(c,0,0):=by
    intro f c
    cases f with
    |zero=>rfl
    |succ f=>rw[zDL,if_neg (Nat.lt_irrefl _)]
   rw[this]
  unfold zCf;rw[d];simp
theorem Tryz.eTok:zB0 prog 102 4 40:=zBp (z:= .agg #[.int .i64 0,.int .i64 0,.int .i64 0,.string ⟨#[]⟩]) (by kernel_rfl) rfl (by decide)
def zFg(s:ByteArray)(w:World)(e:Ending)(w':World):Prop:=
 ∃v,e= .returned (.tuple #[v,.int .i64 (zJ s).2.1,.int .i64 (zJ s).2.2])/\w'.ownsRow w.heap.size 102 4 v (zJ s).1.length ((zJ s).1.flatMap Tok.cells)/\Bw w w'
theorem zG9{a:List Tok}{n e:Int}(h:zJ s=(a,n,e))(c:w'.ownsRow w.heap.size 102 4 v a.length (a.flatMap Tok.cells))(b:Bw w w'):
  zFg s w (.returned (.tuple #[v,.int .i64 n,.int .i64 e])) w':=by
 unfold zFg;rw[h];exact⟨v,rfl,c,b⟩
theorem zEr(w:World)(base:Nat)(e:TypeId)(a:Nat):w.ownsRow base e a (.slice none 0 0) 0 []:=World.ownsRow_nil w base e a
theorem own_below{e:TypeId}{a n:Nat}{xs:List Value}(h:w.ownsRow base e a v n xs)(b:Bw w w'):w'.ownsRow base e a v n xs:=
 h.kept (row:=none) ⟨b.os,b.tape,b.output,b.size,λk c _=>b.block k c⟩ (by cases d:v.ownBlock<;>simp)
theorem zCn(h:Blk W g t cs.toArray):∀j u,cs[j]? =some u->W.cell? ⟨g,0+j,none⟩=some u:=λj u a=>by
 rw[Nat.zero_add,h.cell];simpa using a
theorem zTv(s:ByteArray)(w:World)(c:20000<s.size)(d:s.size<=140737488355328):
  Calls prog 46 #[.string s] w (zFg s w):=by
 have a:zJ s=([],2,-1):=by unfold zJ;rw[if_pos c]
 have b:=hid a;clear a;go_enter func46,ntmps46
 go_wp2;go_ret3;exact zG9 b.out (zEr _ _ _ _) (Below.refl _ _)
theorem zSj(s:ByteArray)(w:World)(hs:s.size<=20000):
  Calls prog 46 #[.string s] w (zFg s w):=by
 have hl:zJ s=zDL s (s.size+1) (zEI s 0) []:=by unfold zJ;rw[if_neg (by omega)]
 have HL:=hid hl;have ad:=zRE s;have R:(zAa zFO).size =256:=by rw[zEO,zHb]
 have ae:=zFv s (i:=0) (by omega);clear hl;go_enter func46,ntmps46
 go_wp2_with fail
 refine(zQP _).mono ?_;rintro e C ⟨rfl,J⟩;have ah:=J.size;go_wp2_with(refine zZ rfl 142 _ _ rfl rfl rfl (Blk.new _ _ _) (by rw[Tryz.zc179,zFf]) (by rw[zFf];exact Tryz.sz179) (zOI s) ?_;intro w2 V Y Z);have b:=zSd V;have D:Bw w w2:=J.trans ((zd (zF C _) Y (Nat.le_refl _) (by simp)).mono (by omega));clear ad R V Y J;have hS:C.heap.size<w2.heap.size:=by rw[Z];simp
 have ap:w.heap.size<=C.heap.size:=ah;go_wp2_with fail
 refine(zQk C.heap.size s 0 w2 b (by omega) (by omega) (by omega)).mono ?_;rintro e H ⟨rfl,K⟩;have z:=b.below K hS;have c:=zD D K;clear b D K Z;have T:C.heap.size<H.heap.size:=z.lt;have aa:=hid ae;go_wp2;go_loopw[6,7] (λv i wr=>∃(k f:Nat)(a:List Tok),k<=s.size/\i= .int .i64 k/\s.size<f+k/\Hid (zDL s f k a=zJ s)/\a.length<=5000/\wr.ownsRow H.heap.size 102 4 v a.length (a.flatMap Tok.cells)/\zAd wr C.heap.size s/\Bw H wr) (λ_ i _=>s.size+1-(intOf i).toNat)
 case atStart=>
  refine⟨zEI s 0,s.size+1,[],aa.out.2,rfl,by omega,HL.out.symm,by simp,zEr _ _ _ _,z,.refl _ _⟩
 case round=>
  obtain⟨k,f,a,hk,rfl,hf,E,aj,j,b,hb⟩:=hrel;clear z;obtain⟨oA,al,rfl,-,-,-⟩:=Row.of_own j (by decide);obtain⟨f,rfl⟩:∃f',f=f'+1:=⟨f-1,by omega⟩;have ak:H.heap.size<=wr.heap.size:=hb.size;by_cases B:k<s.size
  ·have hN:=hid (zTr C.heap.size s k wr b B (by omega))
   have M:zJ s=(if(zq s k).2.2=0/\a.length=5000 then([],2,(k:Int))else if(zq s k).2.2≠0 then([],(zq s k).2.2,(k:Int))else zDL s f (zEI s (zq s k).2.1.toNat) (a++[(zq s k).1])):=by
    rw[<-E.out,zDL,if_pos B]
   have u:=zGx B;unfold zDK at hN;generalize zq s k=q at*;obtain⟨⟨kd,ps,nu,tx⟩,en,er⟩:=q;simp only[Tok.cells]at hN M u;have Q:=hid M;have ab:=hid u;clear M u;(go_wp2_with fail);refine hN.out.mono ?_;rintro e w4 ⟨rfl,A⟩;have F:=b.below A b.lt;have x:=own_below j A;have t:Bw H w4:=zD hb A;have g:=t.size;have I:=hid (And.intro F (And.intro x t));clear b j hb A hN x t F;by_cases O:er=0
   ·subst O;by_cases d:a.length=5000
    ·(have af:(((a.length:Nat):Int)==5000)=true:=by simp;omega);have n:=Q.out;rw[if_pos ⟨rfl,d⟩]at n;have o:=hid n;clear n d;go_wp2;go_ret3;exact zG9 o.out (zEr _ _ _ _) (c.trans ((I.out.2.2.alloc g _).mono (by omega)))
    ·(have af:(((a.length:Nat):Int)==5000)=false:=by simp;omega);have n:=Q.out;rw[if_neg (λh=>d h.2),if_neg (by simp)]at n;have o:=hid n;have u:=ab.out rfl;have X:=zFv s (i:=en.toNat) (by omega);have HG:=hid X;obtain⟨m,rfl⟩:∃m:Nat,en=m:=⟨en.toNat,by omega⟩;simp only[Int.toNat_natCast]at X u;have ag:H.heap.size<=w4.heap.size:=g;clear n;go_wp2_with(at_builtin;refine z6 rfl (.tmp 41) (.tmp 43) _ rfl underlying92 Tryz.eTok rfl ((I.out.2.1.alloc _).alloc _) rfl (news:=[.int .i64 kd,.int .i64 ps,.int .i64 nu,.string tx]) rfl (zCn (zBv _ _ _ _)) (by simp[Value.oneCell']) (by unfold maxLen;omega) (by omega) (by simp;omega) ?_;intro v1 w5 y N U);have W:Bw H w5:=ze ((I.out.2.2.alloc g _).alloc (by simp;omega) _) ((I.out.2.1.alloc _).alloc _) N (by simp;omega) (Nat.le_refl _)
     have G:zAd w5 C.heap.size s:=by
      have b:=(I.out.1.alloc (.cells #[.int .i64 kd,.int .i64 ps,.int .i64 nu,.string tx] 102)).alloc (.cells #[.int .i64 kd,.int .i64 ps,.int .i64 nu,.string tx] 102);have ac:Below H.heap.size _ w5:=ze (.refl _ _) ((I.out.2.1.alloc _).alloc _) N (by simp;omega) (Nat.le_refl _);exact b.below ac T
     have P:=hid (And.intro y (And.intro W G));clear y N U W G;(go_wp2_with fail);refine(zQk C.heap.size s m w5 P.out.2.2 (by omega) (by omega) (by omega)).mono ?_;rintro e w6 ⟨rfl,L⟩;go_wp2;go_roundw
     case rel=>
      refine⟨zEI s m,f,a++[⟨kd,ps,nu,tx⟩],by omega,by simp,by omega,(by have:=o.out;rw[Int.toNat_natCast]at this;exact this.symm),by simp;omega,?_,P.out.2.2.below L P.out.2.2.lt,zD P.out.2.1 L⟩;have:=own_below P.out.1 L;simpa[Tok.cells]using this
     case measure=>simp[intOf];omega
   ·have n:=Q.out;rw[if_neg (λh=>O h.1),if_pos O]at n;have o:=hid n;(have ao:(er==(0:Int))=false:=by simp[O]);(have ai:(er !=(0:Int))=true:=by simp[O]);clear n O;go_wp2;go_ret3;exact zG9 o.out (zEr _ _ _ _) (c.trans ((I.out.2.2.alloc g _).mono (by omega)))
  ·(have n:zJ s=(a,0,0):=by rw[<-E.out,zDL,if_neg B]);have Q:=hid n;clear n;go_wp2;go_ret3;exact zG9 Q.out (zFk j (by omega)) (c.trans (hb.mono (by omega)))
theorem zEs(s:ByteArray)(w:World)(a:s.size<=140737488355328):Calls prog 46 #[.string s] w (zFg s w):=by
 by_cases h:s.size<=20000
 ·exact zSj s w h
 ·exact zTv s w (by omega) a
theorem zNO{s:ByteArray}(h:(zJ s).2.1≠0\/(zJ s).1.length ≠1):zCf s=false:=by
 unfold zCf;split
 ·rename_i heq;rw[heq]at h;simp at h
 ·rfl
theorem zLk{s:ByteArray}{t:Tok}{e:Int}(h:zJ s=([t],0,e)):zCf s=(t.kind==1&&decide (t.text=s)):=by
 unfold zCf;rw[h];rfl
theorem zMm(s:ByteArray)(w:World)(F:s.size<=140737488355328):
  Calls prog 96 #[.string s] w λe w'=>e= .returned (.bool (zCf s))/\Bw w w':=by
 have y:=hid (zEs s w F);have o:=hid (@zNO s);have z:=hid (λt e=> @zLk s t e);go_enter func96,ntmps96
 go_wp2_with fail
 refine y.out.mono ?_;unfold zFg;rintro e M ⟨v,rfl,c,i⟩;obtain⟨g,n,C⟩:∃x,x=zJ s:=⟨_,rfl⟩;generalize k:zJ s=L at*;obtain⟨g,n,C⟩:=L;dsimp only at*;obtain⟨A,B,rfl,q,G,a⟩:=Row.of_own c (by decide);by_cases m:n=0
 ·subst m;by_cases h:g.length=1
  ·obtain⟨t,rfl⟩:∃t,g=[t]:=by
    cases g with
    |nil=>simp at h
    |cons t r=>cases r with
     |nil=>exact⟨t,rfl⟩
     |cons _ _=>simp at h
   have d:=hid (z.out _ _ rfl);obtain⟨b,I,rfl,K,f⟩:=a (by simp[Tok.cells]);obtain⟨J,c1,c2,c3⟩:=zEN (λj u H=>f j u (by simpa[Tok.cells]using H));clear f k a c;simp only[List.length_cons,List.length_nil,Nat.zero_add]at*;go_wp2;all_goals(go_ret;exact⟨zAb (by rw[d.out];first|(simp_all;done)|(rw[zAh];simp_all)),i⟩)
  ·have d:=hid (o.out (.inr h));(have D:((g.length:Int)==1)=false:=by simp;omega);clear h k;go_wp2;go_ret;exact⟨zAb (by rw[d.out]),i⟩
 ·have d:=hid (o.out (.inl m));have E:(n==0)=false:=by simp[m]
  clear k;go_wp2;go_ret;exact⟨zAb (by rw[d.out]),i⟩
def zI5:List ByteArray:=[⟨#[111,114]⟩,⟨#[97,110,100]⟩,⟨#[110,111,116]⟩,⟨#[116,114,117,101]⟩,⟨#[102,97,108,115,101]⟩]
def zGX(s:ByteArray):Bool:=Lib.containsS zI5 s
theorem zMn(s:ByteArray)(w:World):
  Calls prog 91 #[.string s] w λe w'=>e= .returned (.bool (zGX s))/\Bw w w':=by
 let W:=w.alloc (.cells #[.string ⟨#[111,114]⟩,.string ⟨#[97,110,100]⟩,.string ⟨#[110,111,116]⟩,.string ⟨#[116,114,117,101]⟩,.string ⟨#[102,97,108,115,101]⟩] 9)
 have a:=hid (Tryz.slices_Contains_string w.heap.size 0 5 5 zI5 s W (by decide) (by decide) (λj b=>by
  have:j<5:=b
  match j,this with
  |0,_=>simp[W,zI5]
  |1,_=>simp[W,zI5]
  |2,_=>simp[W,zI5]
  |3,_=>simp[W,zI5]
  |4,_=>simp[W,zI5]))
 go_enter func91,ntmps91
 go_wp2_with fail
 refine a.out.mono ?_;rintro e c ⟨rfl,rfl⟩;go_wp2;go_ret;exact⟨rfl,(Below.refl _ _).alloc (Nat.le_refl _) _⟩
def zBO(f:Fm):Bool:=
 if f.op=3 then decide (f.kids.length=0)&&decide (1<=f.cmp)&&decide (f.cmp<=6)&&zCf f.name&& !zGX f.name
 else if f.name≠⟨#[]⟩\/f.cmp≠0\/f.num≠0 then false
 else if f.op=1\/f.op=2 then decide (f.kids.length=0)
 else if f.op=4 then decide (f.kids.length=1)
 else(decide (f.op=5)||decide (f.op=6))&&decide (2<=f.kids.length)
theorem zGz{f:Fm}(h:f.op=3):zBO f=(decide (f.kids.length=0)&&decide (1<=f.cmp)&&decide (f.cmp<=6)&&zCf f.name&& !zGX f.name):=if_pos h
theorem zFK{f:Fm}(h:f.op≠3):zBO f= 
 if f.name≠⟨#[]⟩\/f.cmp≠0\/f.num≠0 then false
 else if f.op=1\/f.op=2 then decide (f.kids.length=0)
 else if f.op=4 then decide (f.kids.length=1)
 else(decide (f.op=5)||decide (f.op=6))&&decide (2<=f.kids.length):=by
 unfold zBO;rw[if_neg h]
theorem zPj(s:ByteArray):s.toList.isEmpty=decide (s=⟨#[]⟩):=by
 rw[<-zAh];have:(⟨#[]⟩:ByteArray).toList =[]:=by rw[ByteArray.toList_eq]
 rw[this];cases s.toList<;>rfl
theorem zLl(Z:zE)(f:Fm)(cs:List Value)(w:World)(q:FmR Z w f cs):
  Calls prog 62 #[.agg cs.toArray] w λe w'=>e= .returned (.bool (zBO f))/\Bw w w':=by
 have v:f.name.size<=140737488355328:=by cases f;unfold FmR at q;exact q.2.1
 have F:f.kids.length<=4611686018427387904:=by cases f;unfold FmR at q;obtain⟨_,_,_,_,A,B,_,_,_,h,_⟩:=q;simp only[Fm.kids];omega
 obtain⟨A,B,rfl⟩:=FmR.form q;clear q;have y:=hid (@zGz f);have z:=hid (@zFK f);have s:=hid (λw=>zMm f.name w v);by_cases m:f.op=3
 ·have a:=hid (y.out m);have C:(f.op==(3:Int))=true:=by simp[m]
  clear z y;generalize f.kids.length=n at*;have j:∀b,zBO f=b->∀w',Bw w w'->(Ending.returned (.bool b)= .returned (.bool (zBO f))/\Bw w w'):=λb e w' h=>⟨by rw[e],h⟩
  have c:=hid j;clear j;by_cases H:n=0
  ·subst H;by_cases g:1<=f.cmp
   ·by_cases i:f.cmp<=6
    ·(go_enter func62,ntmps62);(go_wp2_with fail);refine(s.out _).mono ?_;rintro e I ⟨rfl,u⟩;obtain⟨M,N⟩:=zH8 u;have o:Bw w I:=(zF w _).trans (u.mono (by simp));have J:=hid (zMn f.name I);cases k:zCf f.name
     ·have d:=hid (c.out false (by rw[a.out,k];simp));clear a c;go_wp2;go_ret;exact d.out _ o
     ·dsimp only;(go_wp2_with fail);refine J.out.mono ?_;rintro e Q ⟨rfl,D⟩;have d:=hid (c.out (!zGX f.name) (by rw[a.out,k];simp[g,i]));go_wp2;go_ret;exact d.out _ (o.trans (D.mono o.size))
    ·have d:=hid (c.out false (by rw[a.out];simp[i]));clear a c s;(go_enter func62,ntmps62);go_wp2;go_ret;exact d.out _ ((Below.refl _ _).alloc (Nat.le_refl _) _)
   ·have d:=hid (c.out false (by rw[a.out];simp[g]));clear a c s;(go_enter func62,ntmps62);go_wp2;go_ret;exact d.out _ ((Below.refl _ _).alloc (Nat.le_refl _) _)
  ·have d:=hid (c.out false (by rw[a.out];simp[H]));(have L:((n:Int)==0)=false:=by simp;omega);clear a c s;(go_enter func62,ntmps62);go_wp2;go_ret;exact d.out _ ((Below.refl _ _).alloc (Nat.le_refl _) _)
 ·have a:=hid (z.out m);have C:(f.op==(3:Int))=false:=by simp[m]
  clear m;generalize f.kids.length=n at*;go_enter func62,ntmps62
  repeat' (first|(go_big_may;fail)|((with_reducible apply zDF);rfl;first|((with_reducible apply zDE);rfl;rfl;rfl;exact zBz.app;intro K E;(simp only[nr]))|((with_reducible apply zCp);rfl;rfl;rfl;exact zBz.app;intro K E;(simp only[nr]))|((with_reducible apply zCO);rfl;rfl;rfl;simp only[])|((with_reducible apply zC2);rfl;rfl;(first|exact Or.inl rfl|exact Or.inr rfl);(simp only[nr]))|((with_reducible apply zCN);rfl;rfl;rfl;rfl;exact(by constructor);rfl;(simp only[nr]))|((with_reducible apply zCA);rfl;rfl;rfl;rfl;exact(by constructor);rfl;(simp only[nr]))|((with_reducible apply zBo);rfl;first|((with_reducible apply zBR);rfl;rfl;rfl;exact(by constructor);rfl;rfl;rfl;rfl;(simp only[nr]))|((with_reducible apply zB6);rfl;rfl;rfl;exact(by constructor);rfl;rfl;rfl;rfl;(simp only[nr])))|((with_reducible apply zAv);rfl;rfl;rfl;exact(by constructor);(intro x;(try simp only[Bool.and_eq_true,Bool.not_eq_true']at x);(first|subst x|(obtain⟨g,i⟩:=x;subst g;subst i)|(obtain⟨⟨g,i⟩,m⟩:=x;subst g;subst i;subst m));(try simp only[zAq,zA7,Bool.not_true,Bool.not_false,Bool.true_and,Bool.false_and,Bool.and_self]);go_simp;with_reducible rfl);(simp only[nr]))|((with_reducible apply zCL);rfl;rfl;rfl;all_goals(intro t;subst t;(try simp only[zAq,zA7,Bool.not_true,Bool.not_false,Bool.true_and,Bool.false_and,Bool.and_self])))|((with_reducible apply zBn);rfl;rfl;rfl;all_goals(intro t;(first|subst t|((try simp only[Bool.and_eq_true,Bool.not_eq_true']at t);obtain⟨g,i⟩:=t;subst g;subst i));(try simp only[zAq,zA7,Bool.not_true,Bool.not_false,Bool.true_and,Bool.false_and,Bool.and_self]))))|((with_reducible apply zCM);rfl;rfl;first|((with_reducible apply zCJ);rfl;rfl;rfl;rfl;(simp only[nr]))|((with_reducible apply zCK);rfl;rfl;rfl;rfl;(simp only[nr]))|((with_reducible apply zB5);rfl;rfl;rfl;rfl;rfl;(simp only[nr]))|((with_reducible apply zBm);rfl;rfl;rfl;rfl;rfl;(simp only[nr])))|go_values|go_guarded|go_step|go_upon|go_back|dsimp only)
  all_goals(go_ret;refine⟨zAb ?_,(Below.refl _ _).alloc (Nat.le_refl _) _⟩)
  all_goals
   clear y z s F v;simp only[Hid]at*;rw[a];clear a;simp only[zPj]at*
   subst_vars
   generalize f.op=op at*;generalize f.cmp=O at*;generalize f.num=P at*;by_cases G:f.name=⟨#[]⟩<;>simp[G]at* <;>repeat' split;(all_goals try simp_all);(all_goals try omega);(all_goals(rw[Bool.eq_iff_iff];simp));all_goals try omega
def zv(ds:List zC)(f:Fm):Int:=
 if zBO f=false then 1 else if f.op≠3 then 0 else if f.num<0\/1000000<f.num then 10 else if zA1 ds f.name<0 then 7 else 0
def zA5(ds:List zC)(f:Fm):Int:=if zA9 f=true then 2 else zw (zv ds) f
theorem zRP(Z:zE)(B:Nat)(v:Value)(ds:List zC)(f:Fm)(cs:List Value)(w:World)(x:FmR Z w f cs)(F:Facts Z w v ds)(s:One w B v):
  Calls prog 61 #[.agg cs.toArray,.pointer (some ⟨B,0,none⟩)] w λe w'=>e= .returned (.int .i64 (zv ds f))/\Bw w w':=by
 obtain⟨A,M,rfl⟩:=FmR.form x;have H:=hid (λo=>zLl Z f _ (w.alloc o) (FmR.keep (.alloc (.refl _ _) o) _ _ x));have I:=hid (λw'(h:Bw w w')=>zGV Z v ds f.name w' (F.keep (.of_below h)));obtain⟨⟨D,k,rfl,-,-,-,-⟩,-⟩:=F;have t:=s.cell;have O:=s.free;have u:=s.lt;clear x;go_enter func61,ntmps61
 go_wp2_with fail
 refine(H.out _).mono ?_;rintro e E ⟨rfl,m⟩;obtain⟨P,Q⟩:=zH8 m;have a:Bw w E:=(zF w _).trans (m.mono (by simp));have d:=hid (show zv ds f=if zBO f=false then 1 else if f.op≠3 then 0 else if f.num<0\/1000000<f.num then 10 else if zA1 ds f.name<0 then 7 else 0 from rfl);generalize zBO f=L at*;have i:∀b,zv ds f=b->∀w',Bw w w'->(Ending.returned (.int .i64 b)= .returned (.int .i64 (zv ds f))/\Bw w w'):=λb e w' h=>⟨by rw[e],h⟩
 have g:=hid i;clear i;obtain⟨J,K⟩:E.cell? ⟨B,0,none⟩=some (.slice D ds.length k)/\B<E.heap.size:=⟨by rw[a.cell u];exact t,by have:=a.size;omega⟩;cases L
 ·have c:=hid (g.out 1 (by rw[d.out];simp));clear g d;dsimp only;go_wp2;go_ret;exact c.out _ a
 ·dsimp only;by_cases q:f.op=3
  ·by_cases y:f.num<0\/1000000<f.num
   ·have c:=hid (g.out 10 (by rw[d.out];simp[q,y]));clear g d;by_cases z:f.num<0
    ·go_wp2;go_ret;exact c.out _ a
    ·(have C:1000000<f.num:=by omega);go_wp2;go_ret;exact c.out _ a
   ·have j:=hid (show zv ds f=if zA1 ds f.name<0 then 7 else 0 by rw[d.out];simp[q,y]);clear d;(have z:¬f.num<0:=by omega);(have C:¬1000000<f.num:=by omega);clear y;(go_wp2_with fail);refine(I.out _ a).mono ?_;rintro e R ⟨rfl,n⟩;dsimp only;by_cases G:zA1 ds f.name<0
    ·have c:=hid (g.out 7 (by rw[j.out];simp[G]));go_wp2;go_ret;exact c.out _ (a.trans (n.mono a.size))
    ·have c:=hid (g.out 0 (by rw[j.out];simp[G]));go_wp2;go_ret;exact c.out _ (a.trans (n.mono a.size))
  ·have c:=hid (g.out 0 (by rw[d.out];simp[q]));(have N:(f.op==(3:Int))=false:=by simp[q]);clear g d;go_wp2;go_ret;exact c.out _ a
theorem zH4(Z:zE)(v:Value)(ds:List zC)(f:Fm)(cs:List Value)(w:World)(t:FmR Z w f cs)(G:Facts Z w v ds)(B:zG f<=4000000000000000000)(R:∀b,Z b->b<w.heap.size):
  Calls prog 31 #[.agg cs.toArray,.agg #[v]] w λe w'=>e= .returned (.int .i64 (zA5 ds f))/\Bw w w':=by
 obtain⟨A,n,rfl⟩:=FmR.form t;have s:=G;obtain⟨⟨D,d,rfl,-,-,-,-⟩,-⟩:=G;have M:∀k w,(callFunc 61 k).run prog w= .ok (.enter 61 k) w:=enters_of func61 (by kernel_rfl) rfl;have C:∀W,w.heap.size<=W->∀b,Z b->b<W:=λW h b O=>Nat.lt_of_lt_of_le (R b O) h
 have K:=hid (λw'(h:Bw w w')=>zKG Z f _ w' (FmR.keep (.of_below h) _ _ t) B (C _ h.size));have E:=hid (show zA5 ds f=if zA9 f=true then 2 else zw (zv ds) f from rfl);let g:=(w.alloc (.cells #[.int .i64 f.op,.string f.name,.int .i64 f.cmp,.int .i64 f.num,.slice A f.kids.length n] 40)).alloc (.cells #[.slice D ds.length d] 24);have c:Bw w g:=((Below.refl _ _).alloc (Nat.le_refl _) _).alloc (by simp) _
 have m:One g (w.heap.size+1) (.slice D ds.length d):=by
  have:=One.new (w.alloc (.cells #[.int .i64 f.op,.string f.name,.int .i64 f.cmp,.int .i64 f.num,.slice A f.kids.length n] 40)) (.slice D ds.length d) 24;simp only[World.size_alloc]at this;exact this
 have N:g.heap.size=w.heap.size+2:=by simp[g]
 have I:=hid (λi(a:Bw g i)=>zNr 61 #[.pointer (some ⟨w.heap.size+1,0,none⟩)] M Z (zv ds) i
  (λx cs W Q F=>zRP Z (w.heap.size+1) _ ds x cs W Q (s.keep (.of_below (c.trans ((a.trans (F.mono a.size)).mono c.size)))) (m.of_block ((a.trans (F.mono a.size)).block _ (by omega)))) (zG f) f (Nat.le_refl _) _ i (FmR.keep (.of_below (c.trans (a.mono c.size))) _ _ t) (.refl _ _))
 clear t s;go_enter func31,ntmps31
 go_wp2_with fail
 refine(K.out g c).mono ?_;rintro e i ⟨rfl,a⟩;dsimp only;have q:Bw w i:=c.trans (a.mono c.size);obtain⟨T,L⟩:i.cell? ⟨w.heap.size+1,0,none⟩=some (.slice D ds.length d)/\w.heap.size+1<i.heap.size:=⟨by rw[a.cell (by show w.heap.size+1<g.heap.size;omega)];exact m.cell,by have:=a.size;omega⟩
 obtain⟨U,V,X,Y,d4⟩:=zx (w:=i) (b:=w.heap.size) (o:=0) (v0:= .int .i64 f.op) (v1:= .string f.name) (v2:= .int .i64 f.cmp) (v3:= .int .i64 f.num) (v4:= .slice A f.kids.length n) (λj u P=>by
  rw[a.cell (by show w.heap.size<g.heap.size;omega)]
  match j,P with
  |0,h=>simpa[g]using h
  |1,h=>simpa[g]using h
  |2,h=>simpa[g]using h
  |3,h=>simpa[g]using h
  |4,h=>simpa[g]using h)
 cases H:zA9 f
 ·have J:=hid (I.out i a);go_wp2_with fail
  refine J.out.mono ?_;rintro e w2 ⟨rfl,z⟩;have y:=hid (show zw (zv ds) f=zA5 ds f by rw[E.out,H];simp);go_wp2;go_ret;exact⟨zAp y.out,q.trans (z.mono q.size)⟩
 ·have y:=hid (show 2=zA5 ds f by rw[E.out,H];simp);go_wp2;go_ret;exact⟨zAp y.out,q⟩
def zI6(x cm n:Int):Bool:=
 if cm=1 then x==n else if cm=2 then x !=n else if cm=3 then decide (x<n)else if cm=4 then decide (x<=n)else if cm=5 then decide (n<x)else if cm=6 then decide (n<=x)else false
mutual
def evF(ds:List zC)(c:List Int):Fm->Bool
 | .mk op nm cm nu kids=>if op=3 then zI6 (c.getD (zA1 ds nm).toNat 0) cm nu else if op=4 then !zHA ds c kids else if op=5 then zLT ds c kids else if op=6 then zHA ds c kids else decide (op=1)
def zLT(ds:List zC)(c:List Int):List Fm->Bool
 |[]=>true
 |k::ks=>evF ds c k&&zLT ds c ks
def zHA(ds:List zC)(c:List Int):List Fm->Bool
 |[]=>false
 |k::ks=>evF ds c k||zHA ds c ks
end
theorem zOb(ds:List zC)(c:List Int)(f:Fm):evF ds c f=if f.op=3 then zI6 (c.getD (zA1 ds f.name).toNat 0) f.cmp f.num else if f.op=4 then !zHA ds c f.kids else if f.op=5 then zLT ds c f.kids else if f.op=6 then zHA ds c f.kids else decide (f.op=1):=by
 cases f;rw[evF];rfl
theorem zI7(ds:List zC)(c:List Int):∀l,zHA ds c l=l.any (evF ds c)
 |[]=>by simp[zHA]
 |k::ks=>by simp[zHA,zI7 ds c ks]
theorem zI8(ds:List zC)(c:List Int):∀l,zLT ds c l=l.all (evF ds c)
 |[]=>by simp[zLT]
 |k::ks=>by simp[zLT,zI8 ds c ks]
theorem zTw(ds:List zC)(c:List Int)(l:List Fm):zLT ds c l= !(l.any λk=> !evF ds c k):=by
 rw[zI8];induction l with
 |nil=>rfl
 |cons a l ih=>simp[ih]
theorem cell_below{a w w':World}{p:Addr}(h:Bw a w)(b:Bw w w')(d:p.block<a.heap.size)(c:w.cell? p=some v):w'.cell? p=some v:=by
 rw[b.cell (Nat.lt_of_lt_of_le d h.size)];exact c
theorem zCz{L:Fm->Int}(h:zw L f=0):L f=0/\zAK L f.kids=0:=by
 rw[zFx]at h;by_cases a:L f=0
 ·rw[if_pos a]at h;exact⟨a,h⟩
 ·rw[if_neg a]at h;exact absurd h a
theorem zCS{L:Fm->Int}:∀{l:List Fm},zAK L l=0->∀k(c:k<l.length),zw L l[k]=0
 |[],_,k,c=>absurd c (Nat.not_lt_zero _)
 |a::l,h,k,c=>by
  rw[zAK]at h;by_cases b:zw L a=0
  ·rw[if_pos b]at h
   cases k with
   |zero=>exact b
   |succ k=>exact zCS h k (by simpa using c)
  ·rw[if_neg b]at h;exact absurd h b
theorem zEK(h:zv ds f=0):zBO f=true/\(f.op=3->0<=f.num/\f.num<=1000000/\0<=zA1 ds f.name):=by
 unfold zv at h;cases a:zBO f
 ·rw[if_pos a]at h;omega
 ·refine⟨rfl,λb=> ?_⟩;rw[if_neg (by simp[a]),if_neg (by simp[b])]at h;split at h
  ·omega
  ·split at h
   ·omega
   ·omega
def zMo(l:List Fm)(q:Fm->Bool)(i:Nat):Bool:=match l[i]? with|some x=>q x|none=>false
theorem zKQ{q:Fm->Bool}(hi:i<l.length):zMo l q i=q l[i]:=by simp[zMo,List.getElem?_eq_getElem hi]
theorem zJ1(l:List Fm)(q:Fm->Bool):decide ((0:Int)<=firstIdx (zMo l q) l.length 0)=l.any q:=by
 rw[Bool.eq_iff_iff,decide_eq_true_eq,List.any_eq_true];rcases zDf (zMo l q) l.length 0 with⟨k,_,h2,h3,_,h5⟩|⟨h1,h2⟩
 ·rw[h5];have a:k<l.length:=by omega
  rw[zKQ a]at h3;exact⟨λ_=>⟨_,List.getElem_mem a,h3⟩,λ_=>by omega⟩
 ·rw[h2];constructor
  ·intro h;omega
  ·rintro⟨x,hx,hq⟩;obtain⟨j,b,rfl⟩:=List.getElem_of_mem hx;have:=h1 j (Nat.zero_le _) (by omega);rw[zKQ b]at this;simp[hq]at this
theorem zAN(h:Bw w W)(a:Bw W w'):Bw w w':=h.trans (a.mono h.size)
theorem zI9{A:Option Addr}{g:Nat}{a b c d:Value}(h:FmR Z w f [a,b,c,d,.slice A f.kids.length g]):zm (λcs f=>FmR Z w f cs) 5 Z w f.kids A/\f.kids.length*56<=140737488355328:=by
 cases f;unfold FmR at h;obtain⟨_,_,_,_,k,i,e,_,_,j,h⟩:=h;injection e with _ e;injection e with _ e;injection e with _ e;injection e with _ e;injection e with e;injection e with e;subst e;exact⟨zi.seq h,j⟩
theorem Tryz.idx7_1(b a c d e f g:Value)(w:World):(Instr.index 70 (.agg #[b,a,c,d,e,f,g]) (.int .i64 1)).run prog w= .ok a w:=by kernel_rfl
theorem Tryz.idx7_2(b c a d e f g:Value)(w:World):(Instr.index 70 (.agg #[b,c,a,d,e,f,g]) (.int .i64 2)).run prog w= .ok a w:=by kernel_rfl
theorem Tryz.idx7_3(b c d a e f g:Value)(w:World):(Instr.index 70 (.agg #[b,c,d,a,e,f,g]) (.int .i64 3)).run prog w= .ok a w:=by kernel_rfl
theorem Tryz.idx7_4(b c d e a f g:Value)(w:World):(Instr.index 70 (.agg #[b,c,d,e,a,f,g]) (.int .i64 4)).run prog w= .ok a w:=by kernel_rfl
theorem Tryz.idx7_5(b c d e f a g:Value)(w:World):(Instr.index 70 (.agg #[b,c,d,e,f,a,g]) (.int .i64 5)).run prog w= .ok a w:=by kernel_rfl
theorem Tryz.idx7_6(b c d e f g a:Value)(w:World):(Instr.index 70 (.agg #[b,c,d,e,f,g,a]) (.int .i64 6)).run prog w= .ok a w:=by kernel_rfl
theorem Tryz.idx7_cmp(x n a:Int)(c:1<=a)(d:a<=6)(w:World):(Instr.index 70 (.agg #[.bool false,.bool (x==n),.bool (x !=n),.bool (decide (x<n)),.bool (decide (x<=n)),.bool (decide (n<x)),.bool (decide (n<=x))]) (.int .i64 a)).run prog w= .ok (.bool (zI6 x a n)) w:=by
 have b:a=1\/a=2\/a=3\/a=4\/a=5\/a=6:=by omega
 rcases b with rfl|rfl|rfl|rfl|rfl|rfl
 ·exact Tryz.idx7_1 ..
 ·exact Tryz.idx7_2 ..
 ·exact Tryz.idx7_3 ..
 ·exact Tryz.idx7_4 ..
 ·exact Tryz.idx7_5 ..
 ·exact Tryz.idx7_6 ..
def zOS(Bc Bd Bs:Nat):Value:= .func (.func 34) #[] #[.pointer (some ⟨Bc,0,none⟩),.pointer (some ⟨Bd,0,none⟩),.pointer (some ⟨Bs,0,none⟩)]
theorem Tryz.egHolds1:∀args w,(callFunc 34 args).run prog w= .ok (.enter 34 args) w:=enters_of func34 (by kernel_rfl) rfl
theorem Tryz.egHolds11:∀args w,(callFunc 37 args).run prog w= .ok (.enter 37 args) w:=enters_of func37 (by kernel_rfl) rfl
theorem zPk(Bc Bd Bs:Nat)(a b c d e:Value)(w:World)(r:Bool)(f:w.cell? ⟨Bs,0,none⟩=some (zOS Bc Bd Bs))
  (h:∀W,Bw w W->Calls prog 34 #[.agg #[a,b,c,d,e],.pointer (some ⟨Bc,0,none⟩),.pointer (some ⟨Bd,0,none⟩),.pointer (some ⟨Bs,0,none⟩)] W λe w'=>e= .returned (.bool r)/\Bw W w'):
  Calls prog 37 #[.agg #[a,b,c,d,e],.pointer (some ⟨Bs,0,none⟩)] w λe w'=>e= .returned (.bool (!r))/\Bw w w':=by
 have j:=lt_of_cell f;unfold zOS at f;have k:=Tryz.egHolds1;have i:=hid h;clear h;go_enter func37,ntmps37
 go_wp2_with fail
 refine(i.out _ (zF w _)).mono ?_;rintro e m ⟨rfl,g⟩;go_wp2;go_ret;exact⟨rfl,zAN (zF w _) g⟩
theorem zRQ(Z:zE)(Bc Bd Bs:Nat)(v vc:Value)(ds:List zC)(c:List Int)(a6:c.length=ds.length):∀(m:Nat)(f:Fm),zG f<=m->∀(cs:List Value)(w:World),FmR Z w f cs->Facts Z w v ds->zK Z w vc c->One w Bd v->One w Bc vc->One w Bs (zOS Bc Bd Bs)->zw (zv ds) f=0->
  Calls prog 34 #[.agg cs.toArray,.pointer (some ⟨Bc,0,none⟩),.pointer (some ⟨Bd,0,none⟩),.pointer (some ⟨Bs,0,none⟩)] w λe w'=>e= .returned (.bool (evF ds c f))/\Bw w w':=by
 intro m
 induction m with
 |zero=>intro f hm;have:=zBk f;omega
 |succ m ih=>
 intro f hm cs w hf hd hc H G B a4;have eg:=Tryz.egHolds1;have aq:=Tryz.egHolds11;have IH:=hid ih;clear ih;obtain⟨A,s,rfl⟩:=FmR.form hf;obtain⟨h0,z⟩:=zCz a4;obtain⟨a,o⟩:=zEK h0;obtain⟨d,bg⟩:=zI9 hf;have q:=hid (zOb ds c f);have Q:=hd;have J:=hc;obtain⟨⟨D,ap,rfl,-,-,-,-⟩,-⟩:=hd;obtain⟨⟨C,ao,rfl,-,-,-,-⟩,-⟩:=hc;have ai:=G.cell;have Y:=G.lt;have aj:=H.cell;have aa:=H.lt;have ak:=B.cell;have ab:=B.lt;unfold zOS at ak;have ad:∀b,evF ds c f=b->∀w',Bw w w'->(Ending.returned (.bool b)= .returned (.bool (evF ds c f))/\Bw w w'):=λb e w' h=>⟨by rw[e],h⟩
 have T:=hid ad;clear ad;by_cases t:f.op=3
 ·obtain⟨a2,a3,R⟩:=o t
  have a0:1<=f.cmp/\f.cmp<=6:=by
   rw[zGz t]at a;simp only[Bool.and_eq_true,decide_eq_true_eq]at a;omega
  obtain⟨k,hk,af⟩:∃k:Nat,zA1 ds f.name=k/\k<c.length:=by
   unfold zA1 at R⊢;rcases zDf (zFN ds f.name) ds.length 0 with⟨k,_,h2,t,_,M⟩|⟨h1,h2⟩
   ·exact⟨k,M,by omega⟩
   ·rw[h2]at R;omega
  have bb:c.length<9223372036854775807:=by obtain⟨⟨_,_,_,_,_,h,_⟩,_⟩:=J;omega
  obtain⟨b,ah,rfl,hz,ar,P⟩:=zK.at_ J af;have HI:=hid (λW(h:Bw w W)=>zGV Z _ ds f.name W (Q.keep (.of_below h)));rw[hk]at HI;have hx:c.getD k 0=c[k]:=by simp[List.getD,af]
  have V:=hid (T.out (zI6 c[k] f.cmp f.num) (by rw[q.out,if_pos t,hk,Int.toNat_natCast,hx]));generalize c[k]=x at*;have bd:(k:Int)<c.length:=by omega
  have bf:k<ds.length:=by omega
  obtain⟨au,av⟩:=a0;clear T q d z a o h0 hx hk R a2 a3;go_enter func34,ntmps34
  go_wp2_with fail
  have hB:=Blk.new w 40 #[.int .i64 3,.string f.name,.int .i64 f.cmp,.int .i64 f.num,.slice A f.kids.length s];have ac:=zF w (.cells #[.int .i64 3,.string f.name,.int .i64 f.cmp,.int .i64 f.num,.slice A f.kids.length s] 40);generalize w.alloc (.cells #[.int .i64 3,.string f.name,.int .i64 f.cmp,.int .i64 f.num,.slice A f.kids.length s] 40)=X at*;have U:=hid (And.intro hB ac)
  have n:=hid (λ(W:World)(hW:Bw X W)=>(show W.cell? ⟨Bc,0,none⟩=some (.slice (some ⟨b,ah,none⟩) c.length ao)/\W.cell? ⟨b,ah+k,none⟩=some (.int .i64 x)/\W.cell? ⟨w.heap.size,1,none⟩=some (.string f.name)/\W.cell? ⟨w.heap.size,2,none⟩=some (.int .i64 f.cmp)/\W.cell? ⟨w.heap.size,3,none⟩=some (.int .i64 f.num)/\W.cell? ⟨Bd,0,none⟩=some (.slice D ds.length ap) from by
   have O:=ac.trans (hW.mono ac.size);have hx:=hB.below hW hB.lt
   exact⟨cell_below (.refl _ _) O Y ai,cell_below (.refl _ _) O ar P,hx.cell 1,hx.cell 2,hx.cell 3,cell_below (.refl _ _) O aa aj⟩))
  have az:w.heap.size<X.heap.size:=hB.lt;clear hB ac;refine zL 7 (λW=>Bw X W) (by kernel_rfl) ?_;have hS:(λW=>Bw X W) X.drew:=(Below.refl _ _).drew
  (refine tkS 0 ?_ hS ?_ ?_;rotate_left;intro w F;obtain⟨h0,h1,h2,t,N,M⟩:=n.out _ F;go_simp;(try with_reducible rfl);simp only[nr])
  (refine tkS 1 ?_ hS ?_ ?_;rotate_left;intro w F;obtain⟨h0,h1,h2,t,N,M⟩:=n.out _ F;go_simp;(try with_reducible rfl);simp only[nr])
  (refine tkQ 2 hS ?_;simp only[nr])
  (refine tkS 3 ?_ hS ?_ ?_;rotate_left;intro w F;obtain⟨h0,h1,h2,t,N,M⟩:=n.out _ F;go_simp;(try with_reducible rfl);simp only[nr])
  refine wS1 4 (λK hK=> ?_);go_wp2_with fail
  refine(HI.out _ U.out.2.drew).mono ?_;rintro e w1 ⟨rfl,y⟩;have I:Bw X w1:=((Below.refl X.heap.size X).drew).trans y;refine hK _ _ (Or.inr I) ?_;clear hK K y hS
  (try simp only[nr])
  have hS:(λW=>Bw X W) w1:=I
  (refine tkQ 5 hS ?_;simp only[nr])
  (refine tkS 6 ?_ hS ?_ ?_;rotate_left;intro w F;obtain⟨h0,h1,h2,t,N,M⟩:=n.out _ F;go_simp;(try with_reducible rfl);simp only[nr])
  refine wS1 7 (λK hK=> ?_);go_wp2_with fail
  refine hK _ _ (Or.inl rfl) ?_;clear hK K
  (try simp only[nr])
  refine wSd ?_ _;obtain⟨-,-,-,q3,q4,-⟩:=n.out _ I;have O:Bw w w1:=U.out.2.trans (I.mono U.out.2.size);have a5:w.heap.size<w1.heap.size:=Nat.lt_of_lt_of_le az I.size;clear HI J G H B Q eg aq IH hf n U hS I ai aj ak P;have bc:=Tryz.idx7_cmp x f.num f.cmp au av;generalize f.cmp=cm at*;generalize f.num=nu at*;go_wp2;go_ret;exact V.out _ O
 ·have a7:(f.op==(3:Int))=false:=by simp[t]
  by_cases N:f.op=4
  ·have L:f.kids.length=1:=by
    rw[zFK t]at a;split at a
    ·simp at a
    ·simpa[N]using a
   obtain⟨g,hg⟩:∃g,f.kids=[g]:=by
    cases hk:f.kids with
    |nil=>rw[hk]at L;simp at L
    |cons x r=>rw[hk]at L;simp at L;exact⟨x,by rw[L]⟩
   (have a1:zG g<zG f:=by have:=zBy f;rw[hg]at this;simp[zM]at this;omega);rw[hg]at d z;have aw:zw (zv ds) g=0:=zCS z 0 (by simp);obtain⟨b,ah,cs,rfl,hz,E,ag,-⟩:=d;have ae:=ag;obtain⟨A',al,rfl⟩:=FmR.form ag;obtain⟨c0,c1,c2,c3,c4⟩:=zx (λj u hu=>E j u hu);have HC:=hid (λW(h:Bw w W)=>IH.out g (by omega) _ W (FmR.keep (.of_below h) _ _ ae) (Q.keep (.of_below h)) (J.keep (.of_below h)) (H.of_block (h.block _ aa)) (G.of_block (h.block _ Y)) (B.of_block (h.block _ ab)) aw)
   have V:=hid (T.out (!evF ds c g) (by
    rw[q.out,if_neg t,if_pos N,hg];simp[zHA]))
   (have bh:(0:Int)<(f.kids.length:Nat):=by omega);(have bi:0<f.kids.length:=by omega);have ar:=lt_of_cell c0;clear T q t E ag ae a1 hg L z a o h0 aw;(go_enter func34,ntmps34);(go_wp2_with fail);go_region_with(go_at_call 34;refine(HC.out _ (zF w _).drew).mono ?_;rintro e w1 ⟨rfl,y⟩);(all_goals go_wp2);all_goals(go_ret;exact V.out _ (zAN (zF w _).drew y))
  ·(have a8:(f.op==(4:Int))=false:=by simp[N]);by_cases M:f.op=5
   ·have HP:=hid (zEY 37 #[.pointer (some ⟨Bs,0,none⟩)] aq (λcs x=>FmR Z w x cs) Z f.kids (zMo f.kids λx=> !evF ds c x) A s (w.alloc (.cells #[.int .i64 f.op,.string f.name,.int .i64 f.cmp,.int .i64 f.num,.slice A f.kids.length s] 40))
     (λcs x h=>by obtain⟨A,s,rfl⟩:=FmR.form h;exact⟨_,_,_,_,_,rfl⟩) (d.imp (λ_ _ h=>h) (.alloc (.refl _ _) _) (λ_ h=>h)) (by omega) (λi R cs E W hW=>by
      have ax:Bw w W:=zAN (zF w _) hW;obtain⟨A',al,rfl⟩:=FmR.form E;rw[zKQ R];refine zPk Bc Bd Bs _ _ _ _ _ W _ (by rw[ax.cell ab];exact B.cell) (λW' ay=> ?_);have h:Bw w W':=zAN ax ay
      exact IH.out f.kids[i] (by have:=zGG R;omega) _ W' (FmR.keep (.of_below h) _ _ E) (Q.keep (.of_below h)) (J.keep (.of_below h)) (H.of_block (h.block _ aa)) (G.of_block (h.block _ Y)) (B.of_block (h.block _ ab)) (zCS z i R)))
    have V:=hid (T.out (!(f.kids.any λx=> !evF ds c x)) (by rw[q.out,if_neg t,if_neg N,if_pos M,zTw]));have HQ:=hid (zJ1 f.kids (λx=> !evF ds c x));clear T q t d z a o h0;(go_enter func34,ntmps34);(go_wp2_with fail);rw[<-M];refine HP.out.mono ?_;rintro e w1 ⟨rfl,y⟩;go_wp2;go_ret;rw[HQ.out];exact V.out _ (zAN (zF w _) y)
   ·(have a9:(f.op==(5:Int))=false:=by simp[M]);by_cases h6:f.op=6
    ·have HP:=hid (zEY 34 #[.pointer (some ⟨Bc,0,none⟩),.pointer (some ⟨Bd,0,none⟩),.pointer (some ⟨Bs,0,none⟩)] eg (λcs x=>FmR Z w x cs) Z f.kids (zMo f.kids λx=>evF ds c x) A s (w.alloc (.cells #[.int .i64 f.op,.string f.name,.int .i64 f.cmp,.int .i64 f.num,.slice A f.kids.length s] 40))
      (λcs x h=>by obtain⟨A,s,rfl⟩:=FmR.form h;exact⟨_,_,_,_,_,rfl⟩) (d.imp (λ_ _ h=>h) (.alloc (.refl _ _) _) (λ_ h=>h)) (by omega) (λi R cs E W hW=>by
       have h:Bw w W:=zAN (zF w _) hW;rw[zKQ R]
       exact IH.out f.kids[i] (by have:=zGG R;omega) _ W (FmR.keep (.of_below h) _ _ E) (Q.keep (.of_below h)) (J.keep (.of_below h)) (H.of_block (h.block _ aa)) (G.of_block (h.block _ Y)) (B.of_block (h.block _ ab)) (zCS z i R)))
     have V:=hid (T.out (f.kids.any λx=>evF ds c x) (by rw[q.out,if_neg t,if_neg N,if_neg M,if_pos h6,zI7]));have HQ:=hid (zJ1 f.kids (λx=>evF ds c x));clear T q t d z a o h0;(go_enter func34,ntmps34);(go_wp2_with fail);rw[<-h6];refine HP.out.mono ?_;rintro e w1 ⟨rfl,y⟩;go_wp2;go_ret;rw[HQ.out];exact V.out _ (zAN (zF w _) y)
    ·(have ba:(f.op==(6:Int))=false:=by simp[h6]);have V:=hid (T.out (f.op==1) (by rw[q.out];simp[t,N,M,h6];rfl));clear T q t N M h6;(go_enter func34,ntmps34);go_wp2;go_ret;exact V.out _ ((Below.refl _ _).alloc (Nat.le_refl _) _)
def zCZ(ds:List zC)(c:List Int)(f:Fm):Bool:=fits ds c&&zA5 ds f==0&&evF ds c f
theorem zHv(h:zA5 ds f=0):zA9 f=false/\zw (zv ds) f=0:=by
 unfold zA5 at h;cases a:zA9 f
 ·rw[a]at h;exact⟨rfl,by simpa using h⟩
 ·rw[a]at h;simp at h
theorem zTx{c:List Int}(h:fits ds c=true):c.length=ds.length:=by
 unfold fits at h;simp only[Bool.and_eq_true,decide_eq_true_eq]at h;exact h.1.2
theorem zNP(Z:zE)(v vc:Value)(ds:List zC)(c:List Int)(f:Fm)(cs:List Value)(w:World)(P:FmR Z w f cs)(hd:Facts Z w v ds)(hc:zK Z w vc c)(ac:zG f<=4000000000000000000)(hz:∀b,Z b->b<w.heap.size):
  Calls prog 14 #[.agg cs.toArray,.agg #[v],vc] w λe w'=>e= .returned (.bool (zCZ ds c f))/\Bw w w':=by
 obtain⟨A,k,rfl⟩:=FmR.form P;have n:=hd;have y:=hc;obtain⟨⟨D,a,rfl,-,-,-,-⟩,-⟩:=hd;obtain⟨⟨C,g,rfl,-,-,-,-⟩,-⟩:=hc;have eg:=Tryz.egHolds1;have ad:∀W,w.heap.size<=W->∀b,Z b->b<W:=λW h b hb=>Nat.lt_of_lt_of_le (hz b hb) h
 have T:=hid (λW(h:Bw w W)=>zCX Z _ _ ds c W (n.keep (.of_below h)) (y.keep (.of_below h)));have Q:=hid (λW(h:Bw w W)=>zH4 Z _ ds f _ W (FmR.keep (.of_below h) _ _ P) (n.keep (.of_below h)) ac (ad _ h.size));have R:=hid (show zCZ ds c f=(fits ds c&&zA5 ds f==0&&evF ds c f) from rfl);let m:=((w.alloc (.cells #[.int .i64 f.op,.string f.name,.int .i64 f.cmp,.int .i64 f.num,.slice A f.kids.length k] 40)).alloc (.cells #[.slice D ds.length a] 24)).alloc (.cells #[.slice C c.length g] 29);have G:Bw w m:=(((Below.refl _ _).alloc (Nat.le_refl _) _).alloc (by simp) _).alloc (by simp;omega) _;have ah:m.heap.size=w.heap.size+3:=by simp[m]
 have s:∀W,Bw m W->(W.cell? ⟨w.heap.size,0,none⟩=some (.int .i64 f.op)/\W.cell? ⟨w.heap.size,1,none⟩=some (.string f.name)/\W.cell? ⟨w.heap.size,2,none⟩=some (.int .i64 f.cmp)/\W.cell? ⟨w.heap.size,3,none⟩=some (.int .i64 f.num)/\W.cell? ⟨w.heap.size,4,none⟩=some (.slice A f.kids.length k))/\One W (w.heap.size+1) (.slice D ds.length a)/\One W (w.heap.size+2) (.slice C c.length g)/\w.heap.size+3<=W.heap.size:=by
  intro W O
  have V:One m (w.heap.size+1) (.slice D ds.length a):= .alloc (by
   have:=One.new (w.alloc (.cells #[.int .i64 f.op,.string f.name,.int .i64 f.cmp,.int .i64 f.num,.slice A f.kids.length k] 40)) (.slice D ds.length a) 24;simp only[World.size_alloc]at this
   exact this) _
  have X:One m (w.heap.size+2) (.slice C c.length g):=by
   have:=One.new ((w.alloc (.cells #[.int .i64 f.op,.string f.name,.int .i64 f.cmp,.int .i64 f.num,.slice A f.kids.length k] 40)).alloc (.cells #[.slice D ds.length a] 24)) (.slice C c.length g) 29;simp only[World.size_alloc]at this;exact this
  refine⟨zx (λj u hu=> ?_),V.of_block (O.block _ (by omega)),X.of_block (O.block _ (by omega)),by have:=O.size;omega⟩;have Y:Below (w.heap.size+1) (w.alloc (.cells #[.int .i64 f.op,.string f.name,.int .i64 f.cmp,.int .i64 f.num,.slice A f.kids.length k] 40)) m:=((Below.refl _ _).alloc (by simp) _).alloc (by simp) _;rw[O.cell (by show w.heap.size<m.heap.size;omega),Y.cell (Nat.lt_succ_self _)]
  match j,hu with
  |0,h=>simpa using h
  |1,h=>simpa using h
  |2,h=>simpa using h
  |3,h=>simpa using h
  |4,h=>simpa using h
 have HB:=hid s;clear s;have HH:=hid (λ(hl:c.length=ds.length)(ab:zw (zv ds) f=0) Bs W(h:Bw w W) V X h3=>zRQ Z (w.heap.size+2) (w.heap.size+1) Bs _ _ ds c hl (zG f) f (Nat.le_refl _) _ W (FmR.keep (.of_below h) _ _ P) (n.keep (.of_below h)) (y.keep (.of_below h)) V X h3 ab);clear P n y;go_enter func14,ntmps14
 go_wp2_with fail
 refine(T.out m G).mono ?_;rintro e w1 ⟨rfl,t⟩;dsimp only;have x:=zAN G t;obtain⟨⟨a0,a1,a2,a3,a4⟩,z,B,K⟩:=HB.out w1 t;have L:=z.cell;have M:=B.cell;cases o:fits ds c
 ·have E:=hid (show zCZ ds c f=false by rw[R.out,o];rfl);go_wp2;go_ret;exact⟨zAb E.out.symm,x⟩
 ·have J:=zTx o;go_wp2_with fail
  refine(Q.out w1 x).mono ?_;rintro e N ⟨rfl,H⟩;dsimp only;clear a0 a1 a2 a3 a4 z B K L M;have i:=zAN x H;have q:=zAN t H;obtain⟨⟨a0,a1,a2,a3,a4⟩,z,B,K⟩:=HB.out N q;have L:=z.cell;have M:=B.cell;by_cases d:zA5 ds f=0
  ·(have I:((zA5 ds f)!=(0:Int))=false:=by simp[d]);have U:=hid (HH.out J (zHv d).2);have E:=hid (show zCZ ds c f=evF ds c f by rw[R.out,o,d];rfl);have F:=hid (And.intro z B);clear d q z B;(have ae:w.heap.size<N.heap.size:=by omega);(have af:w.heap.size+1<N.heap.size:=by omega);(have ag:w.heap.size+1+1<N.heap.size:=by omega);(go_wp2_with fail);refine(U.out N.heap.size _ (i.alloc i.size _) (F.out.1.alloc _) (F.out.2.alloc _) (One.new _ _ _)).mono ?_;rintro e w3 ⟨rfl,aa⟩;go_wp2;go_ret;exact⟨zAb E.out.symm,zAN i (zAN (zF _ _) aa)⟩
  ·(have I:((zA5 ds f)!=(0:Int))=true:=by simp[d]);have E:=hid (show zCZ ds c f=false by rw[R.out,o];simp[d]);clear d;go_wp2;go_ret;exact⟨zAb E.out.symm,i⟩
def zHw(x cm n:Int):Bool:=
 if cm=1 then x==n else if cm=2 then x !=n else if cm=3 then decide (x<n)else if cm=4 then decide (x<=n)else if cm=5 then decide (n<x)else decide (n<=x)
theorem zUu{x a n:Int}(c:1<=a)(d:a<=6):zHw x a n=zI6 x a n:=by
 unfold zHw zI6;have b:a=1\/a=2\/a=3\/a=4\/a=5\/a=6:=by omega
 rcases b with rfl|rfl|rfl|rfl|rfl|rfl<;>simp
theorem zPl(x a n:Int)(w:World):Calls prog 143 #[.int .i64 x,.int .i64 a,.int .i64 n] w λe w'=>e= .returned (.bool (zHw x a n))/\w'=w:=by
 have b:=hid (show zHw x a n=_ from rfl);go_enter func143,ntmps143
 go_wp2;all_goals(go_ret;refine⟨zAb ?_,rfl⟩;unfold zHw;simp_all)
def zHB(b:Bool):Int:=if b then 1 else 2
def kn(b:Bool):Fm:= .mk (zHB b) ⟨#[]⟩ 0 0 []
def knV(b:Bool):Value:= .agg #[.int .i64 (zHB b),.string ⟨#[]⟩,.int .i64 0,.int .i64 0,.slice none 0 0]
theorem zOc(Z:zE)(w:World)(b:Bool):FmR Z w (kn b) [.int .i64 (zHB b),.string ⟨#[]⟩,.int .i64 0,.int .i64 0,.slice none 0 0]:=by
 unfold kn FmR;refine⟨by cases b<;>simp[I64,zHB],by decide,by simp[I64],by simp[I64],none,0,rfl,Nat.le_refl _,by decide,by simp,?_⟩;simp[zi]
theorem zNQ(b:Bool)(w:World):Calls prog 142 #[.bool b] w λe w'=>e= .returned (knV b)/\Bw w w':=by
 unfold knV;go_enter func142,ntmps142
 cases b
 ·go_wp2;refine bodyPost_ret (v:=knV false) (by simp[results,results142,go_sem];rfl) rfl ⟨rfl,?_⟩;exact blw
 ·go_wp2;refine bodyPost_ret (v:=knV true) (by simp[results,results142,go_sem];rfl) rfl ⟨rfl,?_⟩;exact blw
mutual
theorem FmR.live{Z:zE}{w:World}:∀(f:Fm)(cs:List Value),FmR Z w f cs->FmR (λb=>Z b/\b<w.heap.size) w f cs
 | .mk op nm c n kids,cs,h=>by
  unfold FmR at h⊢;obtain⟨g,i,j,k,A,a,e,m,o,d,q⟩:=h;exact⟨g,i,j,k,A,a,e,m,o,d,zi.live kids A q⟩
theorem zi.live{Z:zE}{w:World}:∀(l:List Fm)(A:Option Addr),zi Z w l A->zi (λb=>Z b/\b<w.heap.size) w l A
 |[],_,_=>by unfold zi;trivial
 |k::ks,A,h=>by
  unfold zi at h⊢;obtain⟨b,c,cs,e,j,g,f,i⟩:=h
  have a:b<w.heap.size:=by
   obtain⟨m,d,rfl⟩:=FmR.form f;have:=g 0 _ rfl;exact lt_of_cell this
  exact⟨b,c,cs,e,⟨j,a⟩,g,FmR.live k cs f,zi.live ks _ i⟩
end
theorem zDT{v0 v1 v2 v3 v4:Value}(h:Blk w B t #[v0,v1,v2,v3,v4]):
  (w.cell? ⟨B,0,none⟩=some v0/\w.cell? ⟨B,1,none⟩=some v1/\w.cell? ⟨B,2,none⟩=some v2/\w.cell? ⟨B,3,none⟩=some v3/\w.cell? ⟨B,4,none⟩=some v4)/\(∀i,w.frozen? ⟨B,i,none⟩=false):=
 ⟨⟨h.cell 0,h.cell 1,h.cell 2,h.cell 3,h.cell 4⟩,h.frozen⟩
theorem Tryz.szF:(prog.info? 40).map (·.size)=some 5:=by kernel_rfl
theorem zA2{w c d:World}(h:Below B w c)(a:zA (λb=>b≠g) c d)(i:B<=g)(f:B<=c.heap.size):Below B w d:=h.trans ⟨a.os,a.tape,a.output,a.size,λk e=>a.block k (by omega) (by omega)⟩
theorem Tryz.eFm:zB0 prog 40 5 64:=zBp (z:= .agg #[.int .i64 0,.string ⟨#[]⟩,.int .i64 0,.int .i64 0,.slice none 0 0]) (by kernel_rfl) rfl (by decide)
def FmL(Z:zE)(w:World):List Fm->List (List Value)->Prop
 |[],[]=>True
 |f::fs,c::cs=>FmR Z w f c/\FmL Z w fs cs
 | _,_=>False
theorem FmL.keep{Z:zE}{w w':World}(a:zA Z w w'):∀{fs:List Fm}{csl:List (List Value)},FmL Z w fs csl->FmL Z w' fs csl
 |[],[],_=>trivial
 | _::_,_::_,h=>⟨FmR.keep a _ _ h.1,FmL.keep a h.2⟩
 |[],_::_,h=>h.elim
 | _::_,[],h=>h.elim
theorem FmL.mono{Z Z':zE}{w:World}(a:∀b,Z b->Z' b):∀{fs:List Fm}{csl:List (List Value)},FmL Z w fs csl->FmL Z' w fs csl
 |[],[],_=>trivial
 | _::_,_::_,h=>⟨FmR.mono a _ _ h.1,FmL.mono a h.2⟩
 |[],_::_,h=>h.elim
 | _::_,[],h=>h.elim
theorem FmL.snoc{Z:zE}{w:World}{f:Fm}{c:List Value}(a:FmR Z w f c):∀{fs:List Fm}{csl:List (List Value)},FmL Z w fs csl->FmL Z w (fs++[f]) (csl++[c])
 |[],[],_=>⟨a,trivial⟩
 | _::_,_::_,h=>⟨h.1,FmL.snoc a h.2⟩
 |[],_::_,h=>h.elim
 | _::_,[],h=>h.elim
theorem FmL.rows{Z:zE}{w:World}{b:Nat}(d:Z b):∀{fs:List Fm}{csl:List (List Value)}{off:Nat},FmL Z w fs csl->(∀j u,csl.flatten[j]? =some u->w.cell? ⟨b,off+j,none⟩=some u)->zi Z w fs (some ⟨b,off,none⟩)
 |[],[],_,_,_=>by unfold zi;trivial
 |f::fs,c::cs,off,h,hc=>by
  unfold zi;have g:c.length=5:=by obtain⟨A,e,rfl⟩:=FmR.form h.1;rfl
  refine⟨b,off,c,rfl,d,λj u a=> ?_,h.1,FmL.rows d h.2 λj u a=> ?_⟩
  ·refine hc j u ?_;rw[List.flatten_cons,List.getElem?_append_left (by have:=List.getElem?_eq_some_iff.1 a;obtain⟨h,_⟩:=this;exact h)];exact a
  ·have:=hc (5+j) u (by rw[List.flatten_cons,List.getElem?_append_right (by omega)];rw[show 5+j-c.length=j by omega];exact a);rwa[show off+5+j=off+(5+j) by omega]
 |[],_::_,_,h,_=>h.elim
 | _::_,[],_,h,_=>h.elim
theorem FmL.size{Z:zE}{w:World}:∀{fs:List Fm}{csl:List (List Value)},FmL Z w fs csl->csl.flatten.length=fs.length*5
 |[],[],_=>rfl
 |f::fs,c::cs,h=>by
  have b:c.length=5:=by obtain⟨A,a,rfl⟩:=FmR.form h.1;rfl
  rw[List.flatten_cons,List.length_append,FmL.size h.2,b,List.length_cons];omega
 |[],_::_,h=>h.elim
 | _::_,[],h=>h.elim
def zBW(Z:zE)(base:Nat)(w:World)(v:Value)(fs:List Fm):Prop:=
 ∃csl,w.ownsRow base 40 5 v fs.length csl.flatten/\FmL (λb=>Z b/\b<w.heap.size/\v.ownBlock≠some b) w fs csl
theorem zBW.nil(Z:zE)(base:Nat)(w:World):zBW Z base w (.slice none 0 0) []:=⟨[],zEr _ _ _ _,trivial⟩
theorem zBW.below(h:zBW Z base w v fs)(c:Bw w w'):zBW Z base w' v fs:=by
 obtain⟨a,d,e⟩:=h;exact⟨a,own_below d c,FmL.mono (λb h=>⟨h.1,Nat.lt_of_lt_of_le h.2.1 c.size,h.2.2⟩) (FmL.keep (.of_below c) e)⟩
theorem zBW.grow{v f:Value}{csl:List (List Value)}(h:FmL (λb=>Z b/\b<w.heap.size/\v.ownBlock≠some b) w fs csl)
  (i:FmR (λb=>Z b/\b<w.heap.size/\v.ownBlock≠some b) w k cs)(j:w'.ownsRow base 40 5 f (fs.length+1) (csl.flatten++cs))(c:w.grownBy w' v.ownBlock)(m:f.ownBlock=v.ownBlock\/f.ownBlock=some w.heap.size):
  zBW Z base w' f (fs++[k]):=by
 have d:zA (λb=>Z b/\b<w.heap.size/\v.ownBlock≠some b) w w':=⟨c.os,c.tape,c.output,c.size,λb a n=>c.block b a λe=>n.2.2 e.symm⟩;refine⟨csl++[cs],by simpa using j,FmL.mono (λb a=>⟨a.1,Nat.lt_of_lt_of_le a.2.1 c.size,?_⟩) (FmL.snoc (FmR.keep d _ _ i) (FmL.keep d h))⟩;rcases m with e|e
 ·rw[e];exact a.2.2
 ·rw[e];intro g;injection g with g;have:=a.2.1;omega
theorem zBW.done(h:zBW Z base w v fs):
  ∃A a,v= .slice A fs.length a/\fs.length<=a/\a<=maxLen/\zi (λb=>Z b\/base<=b) w fs A:=by
 obtain⟨c,i,g⟩:=h;obtain⟨A,a,rfl,j,k,m⟩:=Row.of_own i (by decide);refine⟨A,a,rfl,j,k,?_⟩
 cases fs with
 |nil=>unfold zi;trivial
 |cons f fs=>
  have d:c.flatten≠[]:=by
   have:=FmL.size g;intro e;rw[e]at this;simp at this
  obtain⟨b,q,rfl,o,n⟩:=m d;exact FmL.rows (Or.inr o) (FmL.mono (λb h=>Or.inl h.1) g) n
def zEl(k:Fm):Fm:=if k.op=1\/k.op=2 then kn (k.op==2)else .mk 4 ⟨#[]⟩ 0 0 [k]
def zDP(op:Int):Int:=if op=6 then 2 else 1
def zEL(op:Int):Int:=if op=6 then 1 else 2
def zBP(op:Int)(ks:List Fm):List Fm:=ks.filter λk=>k.op !=zDP op
def zC8(op:Int)(ks:List Fm):Fm:=
 match ks.find? (λk=>k.op==zEL op)with
 |some k=>k
 |none=>match zBP op ks with
  |[]=> .mk (zDP op) ⟨#[]⟩ 0 0 []
  |[k]=>k
  |r=> .mk op ⟨#[]⟩ 0 0 r
mutual
def zU(nm:ByteArray)(x:Int):Fm->Fm
 | .mk op name cm nu kids=>
  if op=3 then(if name=nm then kn (zHw x cm nu)else .mk op name cm nu kids)
  else if op=4 then(match zAE nm x kids with|k::_=>zEl k|[]=> .mk op name cm nu kids)
  else if op=5\/op=6 then zC8 op (zAE nm x kids)else .mk op name cm nu kids
def zAE(nm:ByteArray)(x:Int):List Fm->List Fm
 |[]=>[]
 |k::ks=>zU nm x k::zAE nm x ks
end
theorem zFL(nm:ByteArray)(x:Int):∀l,zAE nm x l=l.map (zU nm x)
 |[]=>by simp[zAE]
 |k::ks=>by simp[zAE,zFL nm x ks]
theorem zJ2(nm:ByteArray)(x:Int)(f:Fm):zU nm x f= 
  if f.op=3 then(if f.name=nm then kn (zHw x f.cmp f.num)else f)
  else if f.op=4 then(match zAE nm x f.kids with|k::_=>zEl k|[]=>f)
  else if f.op=5\/f.op=6 then zC8 f.op (zAE nm x f.kids)else f:=by
 cases f;rw[zU];rfl
theorem zLm{op:Int}{ks:List Fm}{k:Nat}(b:k<ks.length)(h:∀j(a:j<ks.length),j<k->ks[j].op ≠zEL op)(c:ks[k].op =zEL op):zC8 op ks=ks[k]:=by
 have:ks.find? (λk=>k.op==zEL op)=some ks[k]:=by
  rw[List.find?_eq_some_iff_getElem];exact⟨by simp[c],k,b,rfl,λj a=>by simpa using h j (by omega) a⟩
 unfold zC8;rw[this]
theorem zNR{op:Int}{ks:List Fm}(h:∀j(a:j<ks.length),ks[j].op ≠zEL op):zC8 op ks=match zBP op ks with|[]=> .mk (zDP op) ⟨#[]⟩ 0 0 []|[k]=>k|r=> .mk op ⟨#[]⟩ 0 0 r:=by
 have:ks.find? (λk=>k.op==zEL op)=none:=by
  rw[List.find?_eq_none];intro x b;obtain⟨j,a,rfl⟩:=List.getElem_of_mem b;simpa using h j a
 unfold zC8;rw[this]
theorem zLn{op:Int}{ks:List Fm}{k:Nat}(a:k<ks.length)(h:ks[k].op =zDP op):zBP op (ks.take (k+1))=zBP op (ks.take k):=by
 unfold zBP;rw[zAu a,List.filter_append];simp[h]
theorem zLo{op:Int}{ks:List Fm}{k:Nat}(a:k<ks.length)(h:ks[k].op ≠zDP op):zBP op (ks.take (k+1))=zBP op (ks.take k)++[ks[k]]:=by
 unfold zBP;rw[zAu a,List.filter_append];simp[h]
theorem zH5{op:Int}{ks:List Fm}(k:Nat):(zBP op (ks.take k)).length <=ks.length:=by
 unfold zBP;exact Nat.le_trans (List.length_filter_le _ _) (by simp;omega)
def zDx(Z:zE)(g:Fm)(w:World)(e:Ending)(w':World):Prop:=
 ∃cs,e= .returned (.agg cs.toArray)/\FmR (λb=>Z b\/w.heap.size<=b) w' g cs/\Bw w w'
def zQZ(nm:ByteArray)(x:Int)(ds:List zC)(m:Nat):Prop:=∀(f:Fm),zG f<=m->zG f<=1000000->∀(Z:zE)(cs:List Value)(w:World),FmR Z w f cs->zw (zv ds) f=0->
  Calls prog 107 #[.agg cs.toArray,.string nm,.int .i64 x] w (zDx Z (zU nm x f) w)
mutual
def zAJ(nm:ByteArray):Fm->List Int
 | .mk op name _ nu kids=>(if op=3/\name=nm then[nu]else[])++zAF nm kids
def zAF(nm:ByteArray):List Fm->List Int
 |[]=>[]
 |k::r=>zAJ nm k++zAF nm r
end
mutual
def zA0:Fm->List ByteArray
 | .mk op name _ _ kids=>(if op=3 then[name]else[])++zAH kids
def zAH:List Fm->List ByteArray
 |[]=>[]
 |k::r=>zA0 k++zAH r
end
theorem zPm:n∈zAH l↔∃k∈l,n∈zA0 k:=by
 induction l with
 |nil=>simp[zAH]
 |cons a r ih=>simp[zAH,ih]
mutual
def noC:Fm->Bool
 | .mk op _ _ _ kids=>if op=3 then true else(decide (op=4)||decide (op=5)||decide (op=6))&&decide (kids≠[])&&zJ3 kids
def zJ3:List Fm->Bool
 |[]=>true
 |k::r=>noC k&&zJ3 r
end
theorem zOd:∀(l:List Fm),zJ3 l=true↔∀k∈l,noC k=true
 |[]=>by simp[zJ3]
 |k::r=>by simp[zJ3,zOd r]
def isC(f:Fm):Prop:=f.op=1\/f.op=2
def zJ4(f:Fm):Prop:=isC f\/noC f=true
theorem zSk{v x g n:Int}(h:v<n↔x<n)(i:v<n+1↔x<n+1):zI6 v g n=zI6 x g n:=by
 have a:(v==n)=(x==n):=by rw[Bool.eq_iff_iff,beq_iff_eq,beq_iff_eq];omega
 have b:(v !=n)=(x !=n):=by unfold bne;rw[a]
 have c:decide (v<n)=decide (x<n):=by rw[decide_eq_decide];omega
 have d:decide (v<=n)=decide (x<=n):=by rw[decide_eq_decide];omega
 have e:decide (n<v)=decide (n<x):=by rw[decide_eq_decide];omega
 have f:decide (n<=v)=decide (n<=x):=by rw[decide_eq_decide];omega
 unfold zI6;rw[a,b,c,d,e,f]
section evs
variable {ds:List zC} {c:List Int}
theorem zSl(b:Bool):evF ds c (kn b)=b:=by
 unfold kn zHB;rw[evF];cases b<;>simp
theorem zEt(h:f.op=1):evF ds c f=true:=by rw[zOb,h];simp
theorem zEu(h:f.op=2):evF ds c f=false:=by rw[zOb,h];simp
theorem zUv(k:Fm):evF ds c (zEl k)= !evF ds c k:=by
 unfold zEl;split
 ·rename_i h;rw[zSl];rcases h with h|h
  ·rw[zEt h,h];simp
  ·rw[zEu h,h];simp
 ·rw[evF];simp[zHA]
theorem zMp(ks:List Fm):(ks.filter λk=>k.op !=1).all (evF ds c)=ks.all (evF ds c):=by
 induction ks with
 |nil=>rfl
 |cons k r ih=>
  rw[List.filter_cons];by_cases h:k.op=1
  ·rw[if_neg (by simp[h]),ih,List.all_cons,zEt h];rfl
  ·rw[if_pos (by simp[h]),List.all_cons,List.all_cons,ih]
theorem zMq(ks:List Fm):(ks.filter λk=>k.op !=2).any (evF ds c)=ks.any (evF ds c):=by
 induction ks with
 |nil=>rfl
 |cons k r ih=>
  rw[List.filter_cons];by_cases h:k.op=2
  ·rw[if_neg (by simp[h]),ih,List.any_cons,zEu h];rfl
  ·rw[if_pos (by simp[h]),List.any_cons,List.any_cons,ih]
theorem zSm(ks:List Fm):evF ds c (zC8 5 ks)=ks.all (evF ds c):=by
 unfold zC8;have d:zEL 5=2:=by decide
 have b:zDP 5=1:=by decide
 rw[d];split
 ·rename_i k hk;have e:=List.mem_of_find?_eq_some hk;have a:=List.find?_some hk;simp only[beq_iff_eq]at a;rw[zEu a];symm;rw[List.all_eq_false];exact⟨k,e,by rw[zEu a];simp⟩
 ·rw[<-zMp];unfold zBP;rw[b];split
  ·rename_i h;rw[h];rw[zEt rfl];rfl
  ·rename_i k h;rw[h];simp
  ·rename_i r _ _;rw[evF];simp[zI8]
theorem zSn(ks:List Fm):evF ds c (zC8 6 ks)=ks.any (evF ds c):=by
 unfold zC8;have d:zEL 6=1:=by decide
 have b:zDP 6=2:=by decide
 rw[d];split
 ·rename_i k hk;have e:=List.mem_of_find?_eq_some hk;have a:=List.find?_some hk;simp only[beq_iff_eq]at a;rw[zEt a];symm;rw[List.any_eq_true];exact⟨k,e,zEt a⟩
 ·rw[<-zMq];unfold zBP;rw[b];split
  ·rename_i h;rw[h];rw[zEu rfl];rfl
  ·rename_i k h;rw[h];simp
  ·rename_i r _ _;rw[evF];simp[zI7]
end evs
theorem zC0(h:zBO f=true):
  (f.op=3/\f.kids=[]/\1<=f.cmp/\f.cmp<=6/\zBZ f.name.data.toList=true)\/
  (f.name=⟨#[]⟩/\((f.op=1\/f.op=2)/\f.kids=[]\/f.op=4/\f.kids.length=1\/(f.op=5\/f.op=6)/\2<=f.kids.length)):=by
 by_cases a:f.op=3
 ·rw[zGz a]at h;simp only[Bool.and_eq_true,decide_eq_true_eq,zSi]at h;exact Or.inl ⟨a,List.eq_nil_of_length_eq_zero h.1.1.1.1,h.1.1.1.2,h.1.1.2,h.1.2⟩
 ·rw[zFK a]at h;split at h
  ·cases h
  ·rename_i hb;simp only[not_or,ne_eq,Decidable.not_not]at hb;refine Or.inr ⟨hb.1,?_⟩;split at h
   ·rename_i h12;exact Or.inl ⟨h12,List.eq_nil_of_length_eq_zero (by simpa using h)⟩
   ·split at h
    ·rename_i h4;exact Or.inr (Or.inl ⟨h4,by simpa using h⟩)
    ·simp only[Bool.and_eq_true,Bool.or_eq_true,decide_eq_true_eq]at h;exact Or.inr (Or.inr h)
def okF(ds:List zC)(f:Fm):Prop:=zw (zv ds) f=0
def zDy(ds:List zC)(l:List Fm):Prop:=zAK (zv ds) l=0
theorem zGD{a b:Int}{kids:List Fm}(h:okF ds (.mk op nm a b kids)):zBO (.mk op nm a b kids)=true/\zDy ds kids/\(op=3->0<=zA1 ds nm):=by
 obtain⟨c,g⟩:=zCz h;obtain⟨d,e⟩:=zEK c;exact⟨d,g,λf=>(e f).2.2⟩
theorem zCo{r:List Fm}:zDy ds (k::r)↔okF ds k/\zDy ds r:=by
 unfold zDy okF;rw[zAK];split
 ·rename_i h;simp[h]
 ·rename_i h;simp[h]
theorem zOe{ds:List zC}:∀{l:List Fm},zDy ds l↔∀k∈l,okF ds k
 |[]=>by simp[zDy,zAK]
 |k::r=>by rw[zCo,zOe];simp
section given
variable {ds:List zC} {nm:ByteArray} {v:Int}
mutual
theorem zJ5{c:List Int}:∀f,okF ds f->(∀n∈zAJ nm f,(v<n↔c.getD (zA1 ds nm).toNat 0<n)/\(v<n+1↔c.getD (zA1 ds nm).toNat 0<n+1))->evF ds c (zU nm v f)=evF ds c f
 | .mk op name cm nu kids,hok,ht=>by
  obtain⟨j,i,_⟩:=zGD hok;have a:=zLp (c:=c) kids i (λn e=>ht n (by rw[zAJ];exact List.mem_append_right _ e));rw[zU];by_cases d:op=3
  ·rw[if_pos d];by_cases e:name=nm
   ·rw[if_pos e,zSl];rcases zC0 j with⟨_,_,h1,h6,_⟩|⟨_,h⟩
    ·simp only[Fm.cmp]at h1 h6;rw[evF,if_pos d,e,zUu h1 h6];have:=ht nu (by rw[zAJ,if_pos ⟨d,e⟩];simp);exact zSk this.1 this.2
    ·simp only[Fm.op]at h;omega
   ·rw[if_neg e]
  ·rw[if_neg d];by_cases g:op=4
   ·rw[if_pos g]
    have m:kids.length=1:=by
     rcases zC0 j with⟨h,_⟩|⟨_,h⟩
     ·exact absurd h d
     ·simp only[Fm.op,Fm.kids]at h;omega
    match kids,m,a with
    |[k],_,a=>
     simp only[zAE,List.map_cons,List.map_nil,List.cons.injEq,and_true]at a⊢;rw[zUv,a,evF,if_neg d,if_pos g];simp[zHA]
   ·rw[if_neg g];by_cases b:op=5\/op=6
    ·rw[if_pos b];rcases b with rfl|rfl
     ·rw[zSm,evF];simp only[zI8];have:=congrArg (λl:List Bool=>l.all id) a;simpa[List.all_map]using this
     ·rw[zSn,evF];simp only[zI7];have:=congrArg (λl:List Bool=>l.any id) a;simpa[List.any_map]using this
    ·rw[if_neg b]
theorem zLp{c:List Int}:∀l,zDy ds l->(∀n∈zAF nm l,(v<n↔c.getD (zA1 ds nm).toNat 0<n)/\(v<n+1↔c.getD (zA1 ds nm).toNat 0<n+1))->(zAE nm v l).map (evF ds c)=l.map (evF ds c)
 |[],_,_=>by simp[zAE]
 |k::r,hok,ht=>by
  rw[zCo]at hok;rw[zAE,List.map_cons,List.map_cons,zJ5 k hok.1 (λn a=>ht n (by rw[zAF];exact List.mem_append_left _ a)),zLp r hok.2 (λn a=>ht n (by rw[zAF];exact List.mem_append_right _ a))]
end
theorem zOf(h:zv ds f=0)(a:zDy ds f.kids):okF ds f:=by
 unfold okF;rw[zFx,if_pos h];exact a
theorem zMr(a:f.op≠3)(h:zBO f=true):zv ds f=0:=by
 unfold zv;rw[if_neg (by simp[h]),if_pos a]
theorem zRR(b:Bool):okF ds (kn b):=by
 refine zOf (zMr (by cases b<;>simp[kn,zHB,Fm.op]) ?_) (by simp[kn,Fm.kids,zDy,zAK]);cases b<;>rfl
theorem zV0(h:okF ds k):okF ds (zEl k):=by
 unfold zEl;split
 ·exact zRR _
 ·refine zOf (zMr (by simp[Fm.op]) rfl) ?_;show zDy ds [k];rw[zCo];exact⟨h,rfl⟩
theorem zHC(h:k∈zBP op ks):k∈ks:=by unfold zBP at h;exact(List.mem_filter.1 h).1
theorem zUw(e:op=5\/op=6)(h:∀k∈ks,okF ds k):okF ds (zC8 op ks):=by
 unfold zC8;split
 ·rename_i k c;exact h k (List.mem_of_find?_eq_some c)
 ·split
  ·(have:zDP op=zHB (decide (op≠6)):=by unfold zDP zHB;rcases e with rfl|rfl<;>simp);rw[this];exact zRR _
  ·rename_i k c;exact h k (zHC (op:=op) (by rw[c];simp))
  ·rename_i h1 h2
   have f:2<=(zBP op ks).length :=by
    cases d:zBP op ks with
    |nil=>exact absurd d h1
    |cons a r=>
     cases r with
     |nil=>exact absurd d (h2 a)
     |cons b r=>simp
   refine zOf (zMr (by simp only[Fm.op];omega) ?_) (zOe.2 λk c=>h k (zHC c));unfold zBO;rcases e with rfl|rfl<;>simp[Fm.name,Fm.cmp,Fm.num,Fm.op,Fm.kids,f]
mutual
theorem zDz:∀f,okF ds f->okF ds (zU nm v f)
 | .mk op name cm nu kids,hok=>by
  obtain⟨c,b,_⟩:=zGD hok;have a:=zNS kids b;rw[zU];split
  ·split
   ·exact zRR _
   ·exact hok
  ·split
   ·split
    ·rename_i k r hk;exact zV0 (a k (by rw[hk];simp))
    ·exact hok
   ·split
    ·rename_i h56;exact zUw h56 a
    ·exact hok
theorem zNS:∀l,zDy ds l->∀k∈zAE nm v l,okF ds k
 |[],_,_,h=>absurd h (by simp[zAE])
 |a::r,hok,k,h=>by
  rw[zCo]at hok;rw[zAE]at h;rcases List.mem_cons.1 h with rfl|h
  ·exact zDz a hok.1
  ·exact zNS r hok.2 k h
end
theorem zSo(b:Bool):zJ4 (kn b):=Or.inl (by cases b<;>simp[isC,kn,zHB,Fm.op])
theorem zUx(h:zJ4 k):zJ4 (zEl k):=by
 unfold zEl;split
 ·exact zSo _
 ·rename_i hc;rcases h with h|h
  ·exact absurd h hc
  ·right;rw[noC];simp[zJ3,h]
theorem zTy(e:op=5\/op=6)(h:∀k∈ks,zJ4 k):zJ4 (zC8 op ks):=by
 unfold zC8;split
 ·rename_i k a;exact h k (List.mem_of_find?_eq_some a)
 ·rename_i hz;have g:=List.find?_eq_none.1 hz
  have d:∀k∈zBP op ks,noC k=true:=λk a=>by
   have i:=zHC a;rcases h k i with f|f
   ·exfalso;have b:=g k i;unfold zBP at a;have c:=(List.mem_filter.1 a).2;simp only[beq_iff_eq,bne_iff_ne,ne_eq]at b c;unfold zEL at b;unfold zDP at c;unfold isC at f;rcases e with rfl|rfl
    ·simp at b c;omega
    ·simp at b c;omega
   ·exact f
  split
  ·exact Or.inl (by unfold isC zDP Fm.op;rcases e with rfl|rfl<;>simp)
  ·rename_i k a;exact Or.inr (d k (by rw[a];simp))
  ·rename_i b c;right;rw[noC,if_neg (by omega)];simp only[Bool.and_eq_true,decide_eq_true_eq,Bool.or_eq_true,zOd];exact⟨⟨by omega,b⟩,d⟩
mutual
theorem zH6:∀f,okF ds f->zJ4 (zU nm v f)
 | .mk op name cm nu kids,hok=>by
  obtain⟨e,d,_⟩:=zGD hok;have c:=zLq kids d;rw[zU];split
  ·rename_i h3;split
   ·exact zSo _
   ·right;rw[noC,if_pos h3]
  ·rename_i h3;split
   ·rename_i h4;rcases zC0 e with⟨h,_⟩|⟨_,h⟩
    ·exact absurd h h3
    ·simp only[Fm.op,Fm.kids]at h
     match kids,c with
     |[k],c=>rw[zAE];exact zUx (c _ (by simp[zAE]))
     |[],_=>simp at h;omega
     |a::b::r,_=>simp at h;omega
   ·rename_i h4;split
    ·rename_i h56;exact zTy h56 c
    ·rename_i h56;rcases zC0 e with⟨h,_⟩|⟨_,h⟩
     ·exact absurd h h3
     ·simp only[Fm.op,Fm.kids]at h;exact Or.inl (by unfold isC Fm.op;simp only;omega)
theorem zLq:∀l,zDy ds l->∀k∈zAE nm v l,zJ4 k
 |[],_,_,h=>absurd h (by simp[zAE])
 |a::r,hok,k,h=>by
  rw[zCo]at hok;rw[zAE]at h;rcases List.mem_cons.1 h with rfl|h
  ·exact zH6 a hok.1
  ·exact zLq r hok.2 k h
end
theorem zSp(h:n∈zA0 (zEl k)):n∈zA0 k:=by
 unfold zEl at h;split at h
 ·unfold kn zHB at h;rw[zA0]at h;split at h<;>simp[zAH]at h
 ·rw[zA0]at h;simpa[zAH]using h
theorem zRS(c:op=5\/op=6)(h:n∈zA0 (zC8 op ks)):∃k∈ks,n∈zA0 k:=by
 unfold zC8 at h;split at h
 ·rename_i k a;exact⟨k,List.mem_of_find?_eq_some a,h⟩
 ·split at h
  ·rw[zA0,if_neg (by unfold zDP;split<;>omega)]at h;simp[zAH]at h
  ·rename_i k a;exact⟨k,zHC (op:=op) (by rw[a];simp),h⟩
  ·rw[zA0,if_neg (by omega)]at h;simp only[List.nil_append]at h;obtain⟨k,a,b⟩:=zPm.1 h;exact⟨k,zHC a,b⟩
mutual
theorem zKh:∀f,okF ds f->∀n∈zA0 (zU nm v f),n∈zA0 f/\n≠nm
 | .mk op name cm nu kids,hok,n,h=>by
  obtain⟨i,e,_⟩:=zGD hok;have d:=zJ6 kids e;rw[zU]at h;rw[zA0];split at h
  ·rename_i h3;split at h
   ·unfold kn zHB at h;rw[zA0]at h;split at h<;>simp[zAH]at h
   ·rename_i g;rcases zC0 i with⟨_,c,_⟩|⟨_,b⟩
    ·simp only[Fm.kids]at c;rw[zA0,if_pos h3,c]at h;simp[zAH]at h;subst h;exact⟨by simp[h3],g⟩
    ·simp only[Fm.op]at b;omega
  ·rename_i h3;rw[if_neg h3];simp only[List.nil_append];split at h
   ·split at h
    ·rename_i k r c;exact d n k (by rw[c];simp) (zSp h)
    ·rename_i c;rw[zA0,if_neg h3]at h
     have:kids=[]:=by
      cases kids with
      |nil=>rfl
      |cons a r=>simp[zAE]at c
     rw[this]at h;simp[zAH]at h
   ·split at h
    ·rename_i h56;obtain⟨k,c,g⟩:=zRS h56 h;exact d n k c g
    ·rename_i h4 h56;rcases zC0 i with⟨b,_⟩|⟨_,b⟩
     ·exact absurd b h3
     ·simp only[Fm.op,Fm.kids]at b
      have c:kids=[]:=by
       rcases b with b|b|b
       ·exact b.2
       ·exact absurd b.1 h4
       ·exact absurd b.1 h56
      rw[zA0,if_neg h3,c]at h;simp[zAH]at h
theorem zJ6:∀l,zDy ds l->∀n,∀k∈zAE nm v l,n∈zA0 k->n∈zAH l/\n≠nm
 |[],_,_,_,h,_=>absurd h (by simp[zAE])
 |a::r,hok,n,k,h,hn=>by
  rw[zCo]at hok;rw[zAE]at h;rw[zAH];rcases List.mem_cons.1 h with rfl|h
  ·have:=zKh a hok.1 n hn;exact⟨List.mem_append_left _ this.1,this.2⟩
  ·have:=zJ6 r hok.2 n k h hn;exact⟨List.mem_append_right _ this.1,this.2⟩
end
theorem zQ0(b:Bool):zG (kn b)=1:=by unfold kn;rw[zG];rfl
theorem zTz(k:Fm):zG (zEl k)<=1+zG k:=by
 unfold zEl;split
 ·rw[zQ0];omega
 ·rw[zG];simp[zM]
theorem zNT(h:k∈l):zG k<=zM l:=by
 induction l with
 |nil=>simp at h
 |cons a r ih=>
  rw[zM];rcases List.mem_cons.1 h with rfl|h
  ·omega
  ·have:=ih h;omega
theorem zRT(op:Int)(l:List Fm):zM (zBP op l)<=zM l:=by
 unfold zBP
 induction l with
 |nil=>simp
 |cons a r ih=>
  rw[List.filter_cons];split
  ·rw[zM,zM];omega
  ·rw[zM];omega
theorem zSq(op:Int)(ks:List Fm):zG (zC8 op ks)<=1+zM ks:=by
 unfold zC8;split
 ·rename_i k a;have:=zNT (List.mem_of_find?_eq_some a);omega
 ·have a:=zRT op ks;split
  ·rw[zG];simp[zM]
  ·rename_i k h;rw[h]at a;simp[zM]at a;omega
  ·rw[zG];omega
mutual
theorem zIa:∀f,zG (zU nm v f)<=zG f
 | .mk op name cm nu kids=>by
  have a:=zKi kids;have b:=zBk (.mk op name cm nu kids);rw[zU];split
  ·split
   ·rw[zQ0];omega
   ·exact Nat.le_refl _
  ·split
   ·split
    ·rename_i k r hk;rw[hk,zM]at a;have:=zTz k;rw[zG];omega
    ·exact Nat.le_refl _
   ·split
    ·have:=zSq op (zAE nm v kids);rw[zG];omega
    ·exact Nat.le_refl _
theorem zKi:∀l,zM (zAE nm v l)<=zM l
 |[]=>by simp[zAE]
 |a::r=>by
  rw[zAE,zM,zM];have:=zIa a;have:=zKi r;omega
end
end given
mutual
theorem zNU:∀f,noC f=true->zA0 f≠[]
 | .mk op name cm nu kids,h=>by
  rw[noC]at h;rw[zA0];split at h
  ·rename_i h3;simp[h3]
  ·simp only[Bool.and_eq_true,decide_eq_true_eq]at h;have:=zRU kids h.2 h.1.2;simp[this]
theorem zRU:∀l,zJ3 l=true->l≠[]->zAH l≠[]
 |[],_,h=>absurd rfl h
 |k::r,h,_=>by
  rw[zJ3,Bool.and_eq_true]at h;rw[zAH];have:=zNU k h.1;simp[this]
end
mutual
theorem zFh{ds:List zC}:∀f,okF ds f->zDJ f=true
 | .mk op nm cm nu kids,h=>by
  obtain⟨d,b,_⟩:=zGD h;have c:=zNV kids b;rw[zDJ];rcases zC0 d with⟨a,_,_,_,hn⟩|⟨hn,h'⟩
  ·simp only[Fm.op,Fm.name]at a hn;simp[a,hn,c]
  ·simp only[Fm.op,Fm.name,Fm.kids]at h' hn;(have a:op≠3:=by omega);simp[a,hn,c];omega
theorem zNV{ds:List zC}:∀l,zDy ds l->zD1 l=true
 |[],_=>rfl
 |k::r,h=>by
  rw[zCo]at h;rw[zD1,zFh k h.1,zNV r h.2];rfl
end
mutual
theorem zLU{ds:List zC}:∀f,okF ds f->∀n∈zA0 f,0<=zA1 ds n
 | .mk op nm cm nu kids,h,n,a=>by
  obtain⟨d,b,c⟩:=zGD h;rw[zA0]at a;rcases List.mem_append.1 a with a|a
  ·split at a
   ·rename_i e;simp at a;subst a;exact c e
   ·simp at a
  ·exact zNW kids b n a
theorem zNW{ds:List zC}:∀l,zDy ds l->∀n∈zAH l,0<=zA1 ds n
 |[],_,_,a=>absurd a (by simp[zAH])
 |k::r,h,n,a=>by
  rw[zCo]at h;rw[zAH]at a;rcases List.mem_append.1 a with a|a
  ·exact zLU k h.1 n a
  ·exact zNW r h.2 n a
end
structure GSt where
 all:List zB
 done:List (List UInt8 × Int)
 full:Bool
def zO(f:Fm)(x:zC):List Int:=x.lo::zEV (((zAJ x.name f).flatMap λn=>[n,n+1]).filter λn=>decide (x.lo<n)&&decide (n<=x.hi))
def zBd(b full:Bool)(st:GSt):Int × GSt:=((zo st.all ⟨b,0,[],[]⟩).1,⟨(zo st.all ⟨b,0,[],[]⟩).2,st.done,full⟩)
def zu:List zC->Nat->Fm->GSt->Int × GSt
 |[],_,f,st=>if f.op=1\/f.op=2 then zBd (decide (f.op=1)) st.full st else zBd false (st.full||decide (4000<st.all.length)) st
 |x::rest,i,f,st=>
  if f.op=1\/f.op=2 then zBd (decide (f.op=1)) st.full st
  else if(st.full||decide (4000<st.all.length))=true then zBd false true st
  else match kvI st.done (zCe i f)with
   |some k=>(k,st)
   |none=>
    let r:=zQ (λv st=>zu rest (i+1) (zU x.name v f) st) (zO f x) st;let o:=zAT r.2.all i (zO f x) r.1
    (o.1,⟨o.2,zCh r.2.done (zCe i f) o.1,r.2.full⟩)
theorem zJ7(b a:Bool)(st:GSt):∃t,(zBd b a st).2.all =st.all++t:=zFt _ _
theorem zH7{f:Int->GSt->Int × GSt}(h:∀v st,∃t,(f v st).2.all =st.all++t):∀(l:List Int)(st:GSt),∃t,(zQ f l st).2.all =st.all++t
 |[],st=>⟨[],by simp[zQ]⟩
 |v::l,st=>zHm (h v st) (zH7 h l _)
theorem zHD:∀(rest:List zC)(i:Nat)(f:Fm)(st:GSt),∃t,(zu rest i f st).2.all =st.all++t
 |[],i,f,st=>by
  unfold zu;split<;>exact zJ7 _ _ _
 |x::rest,i,f,st=>by
  unfold zu;split
  ·exact zJ7 _ _ _
  ·split
   ·exact zJ7 _ _ _
   ·split
    ·exact⟨[],by simp⟩
    ·exact zHm (zH7 (λv st=>zHD rest _ _ st) _ st) (zGS _ _ _ _)
theorem zLr{f:Int->GSt->Int × GSt}(h:∀v st,(f v st).2.full =false->st.full=false):∀(l:List Int)(st:GSt),(zQ f l st).2.full =false->st.full=false
 |[],_,h=>h
 |v::l,st,hh=>h v st (zLr h l _ hh)
theorem zSr:∀(rest:List zC)(i:Nat)(f:Fm)(st:GSt),(zu rest i f st).2.full =false->st.full=false
 |[],i,f,st,h=>by
  unfold zu at h;split at h
  ·exact h
  ·unfold zBd at h;simp only[Bool.or_eq_false_iff]at h;exact h.1
 |x::rest,i,f,st,h=>by
  unfold zu at h;split at h
  ·exact h
  ·split at h
   ·unfold zBd at h;cases h
   ·rename_i hf;simp only[Bool.or_eq_true,not_or,Bool.not_eq_true]at hf;exact hf.1
theorem zRV:zA1 ds nm<ds.length:=by
 unfold zA1;rcases zDf (zFN ds nm) ds.length 0 with⟨k,_,h,_,_,e⟩|⟨_,e⟩<;>omega
theorem zIb(hi:i<ds.length):zFN ds nm i=decide ((ds.getD i zAY).name =nm):=by
 unfold zFN;rw[List.getElem?_eq_getElem hi,List.getD_eq_getElem?_getD,List.getElem?_eq_getElem hi];rfl
theorem zOg(h:zA1 ds nm=i):(ds.getD i zAY).name =nm:=by
 unfold zA1 at h;rcases zDf (zFN ds nm) ds.length 0 with⟨k,_,hk,hp,_,e⟩|⟨_,e⟩
 ·have:k=i:=by omega
  subst this;rw[zIb (by omega)]at hp;simpa using hp
 ·omega
theorem zOh(a:zN ds=true)(hi:i<ds.length):zA1 ds (ds.getD i zAY).name =i:=by
 unfold zA1;refine zBx (λj _ f=> ?_) (Nat.zero_le _) (by omega) (by rw[zIb hi];simp);rw[zIb (by omega)];simp only[decide_eq_false_iff_not];intro e;unfold zN at a;simp only[Bool.and_eq_true,decide_eq_true_eq]at a;have b:=a.1.2;unfold names at b
 have c:(ds.map (·.name))[j]? =some (ds.getD j zAY).name :=by
  rw[List.getElem?_map,List.getElem?_eq_getElem (by omega),List.getD_eq_getElem?_getD,List.getElem?_eq_getElem (by omega)];rfl
 have d:(ds.map (·.name))[i]? =some (ds.getD i zAY).name :=by
  rw[List.getElem?_map,List.getElem?_eq_getElem hi,List.getD_eq_getElem?_getD,List.getElem?_eq_getElem hi];rfl
 have:=(List.getElem?_inj (by simpa using(show j<ds.length by omega)) b).1 (c.trans (by rw[e,d]));omega
section grow
variable {ds:List zC}
structure zJ8 (ds:List zC) (all:List zB) (i:Nat) (f:Fm) (r:Int):Prop where
 rng:Rng all r
 says:∀c,Fit ds c->S ds all r c=evF ds c f
 low:(nAt all r).kids ≠[]->(i:Int)<=(nAt all r).fact
theorem zJ8.app{all a:List zB}{r:Int}(h:zJ8 ds all i f r)(e:Good ds all)(b:Good ds a)(g:∃t,a=all++t):zJ8 ds a i f r:=by
 obtain⟨t,rfl⟩:=g;exact⟨h.rng.app t,λc d=>by rw[zP2 e b h.rng];exact h.says c d,by rw[zFs h.rng];exact h.low⟩
structure GInv (ds:List zC) (st:GSt):Prop where
 good:Good ds st.all
 done:∀p∈st.done,∃i f,p.1=zCe i f/\zDJ f=true/\zJ8 ds st.all i f p.2
theorem zLs{st:GSt}(h:GInv ds st)(b a:Bool)(j:∀c,evF ds c f=b):GInv ds (zBd b a st).2/\zJ8 ds (zBd b a st).2.all i f (zBd b a st).1:=by
 obtain⟨M,d⟩:=zKI h.good (n:=⟨b,0,[],[]⟩) (Or.inl ⟨rfl,rfl,rfl⟩);refine⟨⟨M.good,λp m=> ?_⟩,M.rng,λc _=> ?_,λk=>absurd (by rw[show(zBd b a st).2.all =(zo st.all ⟨b,0,[],[]⟩).2 from rfl,show(zBd b a st).1=(zo st.all ⟨b,0,[],[]⟩).1 from rfl,d]) k⟩
 ·obtain⟨i,f,e,g,F⟩:=h.done p m;exact⟨i,f,e,g,F.app h.good M.good M.pre⟩
 ·show S ds (zo st.all ⟨b,0,[],[]⟩).2 (zo st.all ⟨b,0,[],[]⟩).1 c=_;rw[M.good.S_leaf (by rw[d]),d,j c]
theorem zRW{rest:List Int}{lo v:Int}:(lo::rest).getD (nx rest v) 0=zh lo rest (nx rest v):=by
 unfold zh;split
 ·rename_i h0;rw[h0];rfl
 ·rename_i h0;obtain⟨q,a⟩:∃q,nx rest v=q+1:=⟨nx rest v-1,by omega⟩;rw[a];simp
theorem zIc(f:Fm)(x:zC):zy x.lo x.hi (zEV (((zAJ x.name f).flatMap λn=>[n,n+1]).filter λn=>decide (x.lo<n)&&decide (n<=x.hi))):=
 zGR λv a=>by
  have:=(List.mem_filter.1 a).2;simpa using this
theorem zPn{x:zC}{v y:Int}(k:x.lo<=v)(u:v<=x.hi)(j:y=zh x.lo (zEV (((zAJ x.name f).flatMap λn=>[n,n+1]).filter λn=>decide (x.lo<n)&&decide (n<=x.hi))) (nx (zEV (((zAJ x.name f).flatMap λn=>[n,n+1]).filter λn=>decide (x.lo<n)&&decide (n<=x.hi))) v)):
  ∀n∈zAJ x.name f,(y<n↔v<n)/\(y<n+1↔v<n+1):=by
 have g:=zIc f x;have i:=zE9 g k;have a:=λz t=>zFa (v:=v) (x:=z) g t
 have o:x.lo<=y:=by
  rw[j];exact(zNt g (by omega) (zF8 _ _)).1
 rw[<-j]at i a
 have c:∀m,(∃n∈zAJ x.name f,m=n\/m=n+1)->(y<m↔v<m):=λm q=>by
  by_cases s:x.lo<m/\m<=x.hi
  ·have b:m∈zEV (((zAJ x.name f).flatMap λn=>[n,n+1]).filter λn=>decide (x.lo<n)&&decide (n<=x.hi)):=by
    rw[zGQ,List.mem_filter,List.mem_flatMap];obtain⟨n,d,e⟩:=q;exact⟨⟨n,d,by rcases e with rfl|rfl<;>simp⟩,by simp[s]⟩
   exact⟨λh=>a m b h,λh=>by omega⟩
  ·omega
 exact λn d=>⟨c n ⟨n,d,Or.inl rfl⟩,c (n+1) ⟨n,d,Or.inr rfl⟩⟩
theorem zJ9(hd:zN ds=true):∀(rest:List zC)(i:Nat)(f:Fm)(st:GSt),rest=ds.drop i->i<=ds.length->okF ds f->zJ4 f->(∀n∈zA0 f,(i:Int)<=zA1 ds n)->GInv ds st->
  (zu rest i f st).2.full =false->GInv ds (zu rest i f st).2/\zJ8 ds (zu rest i f st).2.all i f (zu rest i f st).1
 |[],i,f,st,hr,hi,hok,hred,hnm,a,hfull=>by
  unfold zu at hfull⊢;by_cases m:f.op=1\/f.op=2
  ·rw[if_pos m];(refine zLs a _ _ λc=> ?_);rcases m with h|h
   ·rw[zEt h,h];rfl
   ·rw[zEu h,h];rfl
  ·exfalso;rcases hred with h|h
   ·exact m h
   ·have A:=zNU f h
    cases E:zA0 f with
    |nil=>exact A E
    |cons n r=>
     have Q:=hnm n (by rw[E];simp);have h2:=zRV (ds:=ds) (nm:=n)
     have h3:ds.length<=i:=by
      have:=congrArg List.length hr;simp at this;omega
     omega
 |x::rest,i,f,st,hr,hi,hok,hred,hnm,a,hfull=>by
  have z:i<ds.length:=by
   have:=congrArg List.length hr;simp at this;omega
  have P:ds.getD i zAY=x:=by
   have:=congrArg (λl=>l.getD 0 zAY) hr;simp[List.getD_eq_getElem?_getD]at this;rw[List.getD_eq_getElem?_getD];exact this.symm
  have C:rest=ds.drop (i+1):=by
   have:=congrArg List.tail hr;simpa using this
  unfold zu at hfull⊢;by_cases m:f.op=1\/f.op=2
  ·rw[if_pos m];(refine zLs a _ _ λc=> ?_);rcases m with h|h
   ·rw[zEt h,h];rfl
   ·rw[zEu h,h];rfl
  ·rw[if_neg m]at hfull⊢;by_cases d:(st.full||decide (4000<st.all.length))=true
   ·rw[if_pos d]at hfull;cases hfull
   ·rw[if_neg d]at hfull⊢
    cases K:kvI st.done (zCe i f)with
    |some k=>
     simp only;obtain⟨i',Y,e,B,F⟩:=a.done _ (zIS K);simp only at e F;obtain⟨rfl,rfl⟩:=zUe (zFh f hok) B e;exact⟨a,F⟩
    |none=>
     simp only[K]at hfull⊢
     have J:∀(l:List Int)(st:GSt),GInv ds st->(zQ (λv st=>zu rest (i+1) (zU x.name v f) st) l st).2.full =false->
       GInv ds (zQ (λv st=>zu rest (i+1) (zU x.name v f) st) l st).2/\
       ∀j,j<l.length->zJ8 ds (zQ (λv st=>zu rest (i+1) (zU x.name v f) st) l st).2.all (i+1) (zU x.name (l.getD j 0) f) ((zQ (λv st=>zu rest (i+1) (zU x.name v f) st) l st).1.getD j 0):=by
      intro l
      induction l with
      |nil=>intro st a _;exact⟨a,λj s=>absurd s (by simp)⟩
      |cons v l ih=>
       intro st a d;have R:=zLr (f:=λv st=>zu rest (i+1) (zU x.name v f) st) (λv st h=>zSr rest _ _ st h) l _ d;have T:=zH7 (f:=λv st=>zu rest (i+1) (zU x.name v f) st) (λv st=>zHD rest _ _ st) l (zu rest (i+1) (zU x.name v f) st).2
       obtain⟨u,w⟩:=zJ9 hd rest (i+1) (zU x.name v f) st C (by omega) (zDz f hok) (zH6 f hok) (λn E=>by
        obtain⟨hm,A⟩:=zKh f hok n E;have Q:=hnm n hm;by_cases e:zA1 ds n=i
        ·exact absurd (by rw[<-zOg e,P]) A
        ·omega) a R
       obtain⟨X,F2⟩:=ih _ u d;refine⟨X,λj s=> ?_⟩
       cases j with
       |zero=>exact w.app u.good X.good T
       |succ j=>exact F2 j (by simpa using s)
     obtain⟨u,w⟩:=J (zO f x) st a hfull;have t:=zC7 (f:=λv st=>zu rest (i+1) (zU x.name v f) st) (zO f x) st;(have D:=λv y h0 Q hy=>zPn (f:=f) (x:=x) (v:=v) (y:=y) h0 Q hy);have I:=zIc f x;unfold zO at u w t⊢;generalize zEV (((zAJ x.name f).flatMap λn=>[n,n+1]).filter λn=>decide (x.lo<n)&&decide (n<=x.hi))=G at*;generalize zQ (λv st=>zu rest (i+1) (zU x.name v f) st) (x.lo::G) st=r at*;obtain⟨kids,W⟩:=r;simp only at u w t⊢
     cases kids with
     |nil=>simp at t
     |cons k0 ks=>
      have L:G.length=ks.length:=by simpa using t.symm
      have H:∀q∈k0::ks,∃j,j<(x.lo::G).length /\q=(k0::ks).getD j 0:=λq O=>by
       obtain⟨j,s,rfl⟩:=List.getElem_of_mem O;exact⟨j,by simp only[List.length_cons]at s⊢;omega,by rw[List.getD_eq_getElem?_getD,List.getElem?_eq_getElem s];rfl⟩
      have Z:=zM8 u.good z L (by rw[P];exact I) (λq O=>by obtain⟨j,s,rfl⟩:=H q O;exact(w j s).rng) (λq O V=>by
       obtain⟨j,s,rfl⟩:=H q O;have:=(w j s).low V
       omega)
      rw[P]at Z;obtain⟨M,hS,N⟩:=Z;generalize zAT W.all i (x.lo::G) (k0::ks)=o at*
      have hF:zJ8 ds o.2 i f o.1:=by
       refine⟨M.rng,λc m=> ?_,N⟩;rw[hS c];have aa:=zF8 G (c.getD i 0);rw[(w (nx G (c.getD i 0)) (by simp only[List.length_cons];omega)).says c m];have b:=m.2 i z;rw[P]at b;have g:=zOh hd z;rw[P]at g;(refine zJ5 f hok λn E=> ?_);rw[g,Int.toNat_natCast];exact D (c.getD i 0) _ b.1 b.2 zRW n E
      refine⟨⟨M.good,λp B=> ?_⟩,hF⟩;rcases zFb B with B|B
      ·obtain⟨i',Y,e,U,F⟩:=u.done p B;exact⟨i',Y,e,U,F.app u.good M.good M.pre⟩
      ·subst B;exact⟨i,f,rfl,zFh f hok,hF⟩
end grow
def zUi(l:List ByteArray):List ByteArray:=l.foldl (λks n=>if ks.any (λk=>decide (k=n))=true then ks else ks++[n]) []
def zDj(f:Fm):Nat:=(zUi (zA0 f)).length
def zC1(ds:List zC)(f:Fm):List zB × Int:=
 if zN ds=false\/zA5 ds f≠0 then([],1)
 else if 24<zDj f then([],2)
 else
  let r:=zu ds 0 (zU ⟨#[]⟩ 0 f) ⟨[],[],false⟩
  if r.2.full=true then([],2)
  else if 4000<(zA8 ds r.2.all r.1).length then([],2)
  else(zA8 ds r.2.all r.1,0)
theorem zUA{g:List zB}(h:zC1 ds f=(g,0)):
  zT ds g/\(∀c,Fit ds c->S ds g 0 c=evF ds c f):=by
 unfold zC1 at h;split at h
 ·injection h with _ h;exact absurd h (by decide)
 ·rename_i hv;simp only[not_or,Bool.not_eq_false,ne_eq,Decidable.not_not]at hv;obtain⟨q,d⟩:=hv;have a:okF ds f:=(zHv d).2;split at h
  ·injection h with _ h;exact absurd h (by decide)
  ·simp only at h;split at h
   ·injection h with _ h;exact absurd h (by decide)
   ·rename_i hfull;split at h
    ·injection h with _ h;exact absurd h (by decide)
    ·rename_i hlen;injection h with h _;have o:GInv ds ⟨[],[],false⟩:=⟨Good.nil ds,λp w=>absurd w (by simp)⟩;obtain⟨A,F⟩:=zJ9 q ds 0 (zU ⟨#[]⟩ 0 f) ⟨[],[],false⟩ (by simp) (Nat.zero_le _) (zDz f a) (zH6 f a) (λn b=>zLU _ (zDz f a) n b) o (by simpa using hfull);subst h;refine⟨zLC q A.good F.rng (by omega),λc u=> ?_⟩;rw[zNF A.good F.rng,F.says c u];(refine zJ5 f a λn b=> ?_);exfalso
     have:∀f:Fm,okF ds f->zAJ ⟨#[]⟩ f=[]:=by
      intro f
      induction hs:zG f using Nat.strongRecOn generalizing f with
      | _ m ih=>
       intro a;obtain⟨op,nm,x,z,kids⟩:=f;obtain⟨v,j,_⟩:=zGD a;rw[zAJ]
       have t:¬(op=3/\nm=⟨#[]⟩):=λ⟨h3,e⟩=>by
        rcases zC0 v with⟨_,_,_,_,b⟩|⟨_,h⟩
        ·simp only[Fm.name]at b;rw[e]at b;simp[zBZ]at b
        ·simp only[Fm.op]at h;omega
       rw[if_neg t,List.nil_append]
       have:∀l:List Fm,(∀k∈l,zG k<m)->zDy ds l->zAF ⟨#[]⟩ l=[]:=by
        intro l
        induction l with
        |nil=>intro _ _;rfl
        |cons k r ih2=>
         intro s a;rw[zCo]at a;rw[zAF,ih (zG k) (s k (by simp)) k rfl a.1,ih2 (λk i=>s k (by simp[i])) a.2];rfl
       refine this kids (λk i=> ?_) j;have y:=zNT i;rw[zG]at hs;omega
     rw[this f a]at b;simp at b
theorem zSs(h:(zC1 ds f).2≠0):(zC1 ds f).1=[]/\((zC1 ds f).2=2\/((zC1 ds f).2=1/\(zN ds=false\/zA5 ds f≠0))):=by
 unfold zC1 at h⊢;split
 ·rename_i hv;exact⟨rfl,Or.inr ⟨rfl,hv⟩⟩
 ·rename_i hv;rw[if_neg hv]at h;split
  ·exact⟨rfl,Or.inl rfl⟩
  ·rename_i ht;rw[if_neg ht]at h;simp only at h⊢;split
   ·exact⟨rfl,Or.inl rfl⟩
   ·rename_i hf;rw[if_neg hf]at h;split
    ·exact⟨rfl,Or.inl rfl⟩
    ·rename_i hl;rw[if_neg hl]at h;exact absurd rfl h
structure zEM (s:ByteArray) (t:Tok):Prop where
 pos:0<=t.pos
 kind:t.kind=1\/t.kind=2\/t.kind=3\/t.kind=4
 fin:t.pos+t.text.size<=s.size
 num: -1000000000000000000<t.num/\t.num<1000000000000000000
theorem zKj(h:s.size<=18): -1000000000000000000<numOf s/\numOf s<1000000000000000000:=by
 unfold numOf
 cases a:Lib.atoi s.data.toList with
 |none=>simp
 |some n=>exact Lib.atoi_bound a (by simpa using h)
theorem zDk: -1000000000000000000<(0:Int)/\(0:Int)<1000000000000000000:=by decide
theorem ext_size(s:ByteArray)(a b:Nat):(s.extract a b).size =min b s.size-a:=by
 simp[ByteArray.size_extract]
theorem zUB(hi:i<s.size)(h:(zq s i).2.2=0):(zq s i).1.pos =i/\
  ((zq s i).1.kind =1\/(zq s i).1.kind =2\/(zq s i).1.kind =3\/(zq s i).1.kind =4)/\
  (zq s i).1.pos +(zq s i).1.text.size <=(zq s i).2.1/\ -1000000000000000000<(zq s i).1.num /\(zq s i).1.num <1000000000000000000:=by
 have a:=zGx hi h;unfold zq at h a⊢;by_cases e:zH s i=3
 ·rw[if_pos e]at h a⊢;by_cases b:24<zV s [3,4,5] i-i
  ·rw[if_pos b]at h;exact absurd h (by decide)
  ·rw[if_neg b]at h a⊢;refine⟨rfl,.inl rfl,?_,zDk.1,zDk.2⟩;show(i:Int)+(s.extract i (zV s [3,4,5] i)).size <=((zV s [3,4,5] i:Nat):Int);rw[ext_size];have:=a.1;simp only at this;omega
 ·rw[if_neg e]at h a⊢;by_cases f:zH s i=4
  ·rw[if_pos f]at h a⊢;by_cases b:13<zV s [4] i-i\/zH s (zV s [4] i)=3\/zH s (zV s [4] i)=5
   ·rw[if_pos b]at h;exact absurd h (by decide)
   ·rw[if_neg b]at h a⊢;(have d:(s.extract i (zV s [4] i)).size <=18:=by rw[ext_size];omega);refine⟨rfl,.inr (.inl rfl),?_,(zKj d).1,(zKj d).2⟩;show(i:Int)+(s.extract i (zV s [4] i)).size <=((zV s [4] i:Nat):Int);rw[ext_size];have:=a.1;simp only at this;omega
  ·rw[if_neg f]at h a⊢;by_cases g:zH s i=6
   ·rw[if_pos g]at h a⊢;generalize o:Lib.indexAny (s.extract (i+1) s.size).data.toList [34,10]=q at*;by_cases b:q<0\/(s.extract (i+1) s.size).data.toList[q.toNat]? =some 10
    ·rw[if_pos b]at h;exact absurd h (by decide)
    ·rw[if_neg b]at h a⊢;by_cases m:400<q
     ·rw[if_pos m]at h;exact absurd h (by decide)
     ·rw[if_neg m]at h a⊢;refine⟨rfl,.inr (.inr (.inl rfl)),?_,zDk.1,zDk.2⟩;show(i:Int)+((s.extract (i+1) s.size).extract 0 q.toNat).size <=(i:Int)+q+2;rw[ext_size]
      have:0<=q:=by
       rcases Int.lt_or_le q 0 with h|h
       ·exact absurd (Or.inl h) b
       ·exact h
      omega
   ·rw[if_neg g]at h a⊢;by_cases j:zH s i=7\/zH s i=8
    ·rw[if_pos j]at h a⊢;by_cases n:Lib.hasPrefix (s.extract (i+1) s.size).data.toList [61]=true
     ·rw[if_pos n]at h a⊢;refine⟨rfl,.inr (.inr (.inr rfl)),?_,zDk.1,zDk.2⟩;show(i:Int)+(s.extract i (i+2)).size <=(i:Int)+2;rw[ext_size];omega
     ·rw[if_neg n]at h a⊢;by_cases c:zH s i=7
      ·rw[if_pos c]at h;exact absurd h (by decide)
      ·rw[if_neg c]at h a⊢;refine⟨rfl,.inr (.inr (.inr rfl)),?_,zDk.1,zDk.2⟩;show(i:Int)+(s.extract i (i+1)).size <=(i:Int)+1;rw[ext_size];omega
    ·rw[if_neg j]at h a⊢;by_cases k:zH s i=9
     ·rw[if_pos k]at h a⊢;refine⟨rfl,.inr (.inr (.inr rfl)),?_,zDk.1,zDk.2⟩;show(i:Int)+(s.extract i (i+1)).size <=(i:Int)+1;rw[ext_size];omega
     ·rw[if_neg k]at h;exact absurd h (by decide)
structure zSt (s:ByteArray) (ts:List Tok) (i:Nat):Prop where
 le:i<=s.size
 tok:∀t∈ts,zEM s t/\t.pos+t.text.size<=i
 asc:ts.Pairwise λ(x y:Tok)=>x.pos+x.text.size<=y.pos
theorem zOi{s:ByteArray}:∀(f i:Nat)(acc d:List Tok),zSt s acc i->zDL s f i acc=(d,0,0)->∃j,zSt s d j
 |0,i,acc,d,h,e=>by
  unfold zDL at e;injection e with e _;exact⟨i,e▸h⟩
 |f+1,i,acc,d,h,e=>by
  unfold zDL at e;by_cases c:i<s.size
  ·rw[if_pos c]at e;by_cases g:(zq s i).2.2=0/\acc.length=5000
   ·rw[if_pos g]at e;injection e with _ e;injection e with e _;exact absurd e (by decide)
   ·rw[if_neg g]at e;by_cases a:(zq s i).2.2≠0
    ·rw[if_pos a]at e;injection e with _ e;injection e with e _;exact absurd e a
    ·rw[if_neg a]at e;simp only[ne_eq,Decidable.not_not]at a;obtain⟨v,w⟩:=zGx c a;obtain⟨A,q,B,u⟩:=zUB c a;have m:=zFv s (i:=(zq s i).2.1.toNat) (by omega);refine zOi f _ _ _ ⟨m.2,λt b=> ?_,?_⟩ e
     ·rcases List.mem_append.1 b with b|b
      ·obtain⟨o,z⟩:=h.tok t b;exact⟨o,by omega⟩
      ·simp only[List.mem_singleton]at b;subst b;exact⟨⟨by omega,q,by omega,u⟩,by omega⟩
     ·rw[List.pairwise_append];refine⟨h.asc,by simp,λx n y k=> ?_⟩;simp only[List.mem_singleton]at k;subst k;have:=(h.tok x n).2;omega
  ·rw[if_neg c]at e;injection e with e _;exact⟨i,e▸h⟩
theorem zOj(s:ByteArray):∀(f i:Nat)(acc:List Tok),(zDL s f i acc).2.1=0->(zDL s f i acc).2.2=0:=by
 intro f
 induction f with
 |zero=>intro i acc _;rfl
 |succ f ih=>
  intro i acc h;unfold zDL at h⊢;by_cases c:i<s.size
  ·rw[if_pos c]at h⊢;by_cases b:(zq s i).2.2=0/\acc.length=5000
   ·rw[if_pos b]at h;exact absurd (show(2:Int)=0 from h) (by decide)
   ·rw[if_neg b]at h⊢;by_cases a:(zq s i).2.2≠0
    ·rw[if_pos a]at h;exact absurd h a
    ·rw[if_neg a]at h⊢;exact ih _ _ h
  ·rw[if_neg c]
theorem zId(h:(zJ s).2.1=0):(zJ s).2.2=0:=by
 unfold zJ at h⊢;split at h
 ·exact absurd (show(2:Int)=0 from h) (by decide)
 ·rename_i hs;rw[if_neg hs];exact zOj _ _ _ _ h
theorem zIe(h:(zJ s).2.1=0):(∀t∈(zJ s).1,zEM s t)/\(zJ s).1.Pairwise (λ(x y:Tok)=>x.pos+x.text.size<=y.pos):=by
 have b:=zFv s (i:=0) (Nat.zero_le _);unfold zJ at h⊢;by_cases a:20000<s.size
 ·rw[if_pos a]at h;exact absurd h (by decide)
 ·rw[if_neg a]at h⊢;obtain⟨j,I⟩:=zOi (s.size+1) (zEI s 0) [] (zDL s (s.size+1) (zEI s 0) []).1 ⟨b.2,by simp,by simp⟩ (Prod.ext rfl (Prod.ext h (zOj _ _ _ _ h)));exact⟨λt c=>(I.tok t c).1,I.asc⟩
theorem zOk(s:ByteArray):(zJ s).1.length <=5000:=by
 have:∀(f i:Nat)(a:List Tok),a.length<=5000->(zDL s f i a).1.length <=5000:=by
  intro f
  induction f with
  |zero=>intro i a h;exact h
  |succ f ih=>
   intro i a h;unfold zDL;by_cases d:i<s.size
   ·rw[if_pos d];by_cases c:(zq s i).2.2=0/\a.length=5000
    ·rw[if_pos c];simp
    ·rw[if_neg c];by_cases b:(zq s i).2.2≠0
     ·rw[if_pos b];simp
     ·rw[if_neg b];refine ih _ _ ?_;simp only[ne_eq,Decidable.not_not]at b;(have:a.length≠5000:=λe=>c ⟨b,e⟩);simp;omega
   ·rw[if_neg d];exact h
 unfold zJ;split
 ·simp
 ·exact this _ _ [] (by simp)
end Go.Proofs.YthpocbeoanipbaaGreatDoor
