/- Lemmas. -/
import Derived.Test.YtommaegelgilnaaGreatDoorM22
import Derived.Test.YtommaegelgilnaaGreatDoorM18
import Derived.Lib.ItoaLen
import Derived.Test.YtommaegelgilnaaGreatDoorM16
set_option linter.all false
namespace Go.Proofs.YtommaegelgilnaaGreatDoor
open Go.RowKit Go.Proofs.Tryz
set_option maxHeartbeats 4000000
set_option maxRecDepth 100000
variable {A:Option Addr}{B base cap i:Nat}{W w w':World}{Z:zD}{all g:List zB}{b:UInt8}{c:List Int}{cs:List Value}{ds:List zE}{f k:Fm}{fs ks:List Fm}{l:List ByteArray}{n nm s:ByteArray}{op:Int}{t:TypeId}{v:Value}{z:zp}
def zAy(s:ByteArray):Bool:=match zCg s with
 |([t],0,_)=>t.kind==1&&decide (t.text=s)
 | _=>false
def zJX(s:ByteArray)(t:Tok):Prop:=t.kind=1->∃i k,t.text=s.extract i k/\i<k/\k<=s.size/\k-i<=24/\zL s i=3/\∀j,i<=j->j<k->[3,4,5].contains (zL s j)=true
theorem zQE(hi:i<s.size):zJX s (zBG s i).1:=by
 intro a;unfold zBG at a⊢;by_cases b:zL s i=3
 ·rw[if_pos b]at a⊢;by_cases d:24<zXO s [3,4,5] i-i
  ·rw[if_pos d]at a;simp[zCo]at a
  rw[if_neg d];obtain⟨j,f,g,h⟩:=zCL s [3,4,5] (i:=i) (by omega)
  have c:i<zXO s [3,4,5] i:=by
   rcases Nat.lt_or_ge i (zXO s [3,4,5] i)with h'|h'
   ·exact h'
   (have e:zXO s [3,4,5] i=i:=by omega);have:=h (by omega);rw[e,b]at this;simp at this
  exact⟨i,_,rfl,c,f,by omega,b,g⟩
 rw[if_neg b]at a;exfalso;revert a
 repeat' split
 all_goals simp[zCo]
theorem zKh{s:ByteArray}:∀f i a,(∀t∈a,zJX s t)->∀t∈(zFx s f i a).1,zJX s t
 |0,_,a,h=>h
 |f+1,i,a,h=>by
  unfold zFx;by_cases c:i<s.size
  ·rw[if_pos c];split
   ·simp
   split
   ·simp
   refine zKh f _ _ (λt b=> ?_);rw[List.mem_append]at b;rcases b with b|b
   ·exact h t b
   simp at b;rw[b];exact zQE c
  rw[if_neg c];exact h
theorem zQF:∀t∈(zCg s).1,zJX s t:=by
 unfold zCg;split
 ·simp
 exact zKh _ _ _ (by simp)
theorem zJh:[3,4,5].contains (zCb b)=(zBy b||zGR b):=by
 have a:∀n:Fin 256,([3,4,5].contains (zCb (UInt8.ofNat n.val)):Bool)=(zBy (UInt8.ofNat n.val)||zGR (UInt8.ofNat n.val)):=by decide+kernel
 have:=a ⟨b.toNat,b.toNat_lt⟩;rwa[UInt8.ofNat_toNat]at this
theorem zMN:zCb b=3↔zBy b=true:=by
 have a:∀n:Fin 256,decide (zCb (UInt8.ofNat n.val)=3)=zBy (UInt8.ofNat n.val):=by decide+kernel
 have:=a ⟨b.toNat,b.toNat_lt⟩;rw[UInt8.ofNat_toNat]at this;rw[<-this];simp
theorem zKi:zB6 s.data.toList=true↔0<s.size/\s.size<=24/\zL s 0=3/\∀j,j<s.size->[3,4,5].contains (zL s j)=true:=by
 have d:s.data.toList.length=s.size:=by simp
 constructor
 ·intro h
  cases a:s.data.toList with
  |nil=>rw[a]at h;simp[zB6]at h
  |cons c r=>
  rw[a]at h d;unfold zB6 at h;rw[Bool.and_eq_true,Bool.and_eq_true]at h;obtain⟨⟨m,n⟩,g⟩:=h;have f:0<s.size:=by rw[<-d];simp
  have k:s[0]=c:=by
   have:=zB0 f;rw[a]at this;simpa using this.symm
  refine⟨f,by rw[<-d];simpa using g,by rw[zD8 f,k];exact zMN.2 m,λj i=> ?_⟩;rw[zD8 i,zJh];have b:=zB0 i;rw[a]at b
  cases j with
  |zero=>simp at b;rw[<-b,m];rfl
  |succ j=>simp at b;exact(List.all_eq_true.1 n) _ (List.mem_of_getElem? b)
 rintro⟨f,h24,g,h⟩
 cases a:s.data.toList with
 |nil=>rw[a]at d;simp at d;omega
 |cons c r=>
 have k:s[0]=c:=by
  have:=zB0 f;rw[a]at this;simpa using this.symm
 unfold zB6;rw[zD8 f,k]at g;rw[Bool.and_eq_true,Bool.and_eq_true];refine⟨⟨zMN.1 g,?_⟩,?_⟩
 ·rw[List.all_eq_true];intro x o;obtain⟨j,i,rfl⟩:=List.getElem_of_mem o;rw[a]at d;have e:j+1<s.size:=by rw[<-d];simp;omega
  have:=h (j+1) e;rw[zD8 e,zJh]at this;have b:=zB0 e;rw[a]at b;simp[i]at b;rw[b];exact this
 rw[a]at d;simp only[decide_eq_true_eq];omega
theorem extract_all(s:ByteArray):s.extract 0 s.size=s:=by
 have:(s.extract 0 s.size).data.toList =s.data.toList:=by
  rw[Lib.extract_data];simp;exact List.take_of_length_le (by simp)
 cases s;rename_i d;have a:=Array.toList_inj.1 this;cases he:ByteArray.extract ⟨d⟩ 0 (ByteArray.size ⟨d⟩);rw[he]at a;simpa using a
theorem zIm(s:ByteArray):zAy s=zB6 s.data.toList:=by
 rw[Bool.eq_iff_iff];constructor
 ·intro h;have z:=zQF (s:=s);unfold zAy at h;split at h
  ·rename_i t x heq;rw[Bool.and_eq_true]at h;(have G:t.kind=1:=by simpa using h.1);(have I:t.text=s:=by simpa using h.2);obtain⟨i,k,y,B,e,J,D,E⟩:=z t (by rw[heq];simp) G;rw[I]at y
   have H:s.size=k-i:=by
    have:=congrArg ByteArray.size y;simp at this;omega
   (obtain rfl:i=0:=by omega);(obtain rfl:k=s.size:=by omega);exact zKi.2 ⟨B,by omega,D,λj F=>E j (Nat.zero_le _) F⟩
  simp at h
 intro h;obtain⟨A,C,e,h⟩:=zKi.1 h;have u:zXO s [1] 0=0:=zFs (Nat.le_refl _) (by omega) (λj a b=>by omega) (λ_=>by rw[e];rfl);have v:zXO s [3,4,5] 0=s.size:=zFs (Nat.zero_le _) (Nat.le_refl _) (λj _ b=>h j b) (λo=>absurd o (Nat.lt_irrefl _));have w:zXO s [1] s.size=s.size:=zFs (Nat.le_refl _) (Nat.le_refl _) (λj a b=>by omega) (λo=>absurd o (Nat.lt_irrefl _))
 have g:zEc s 0=0:=by
  unfold zEc;rw[u,zEb,if_neg (by rw[e];decide)]
 have m:zEc s s.size=s.size:=by
  unfold zEc;rw[w,zEb,if_neg (by rw[zGS (Nat.le_refl _)];decide)]
 have q:zBG s 0=(⟨1,0,0,s⟩,(s.size:Int),0):=by
  unfold zBG;rw[if_pos e,v,if_neg (by omega),extract_all];rfl
 have d:zCg s=([⟨1,0,0,s⟩],0,0):=by
  unfold zCg;rw[if_neg (by omega),g,zFx,if_pos A,q];simp only[List.length_nil,List.nil_append];rw[if_neg (by omega),if_neg (by omega),Int.toNat_natCast,m];obtain⟨n,z⟩:∃n,s.size=n+1:=⟨s.size-1,by omega⟩
  have:∀f c,zFx s f s.size c=(c,0,0):=by
   intro f c
   cases f with
   |zero=>rfl
   |succ f=>rw[zFx,if_neg (Nat.lt_irrefl _)]
  rw[this]
 unfold zAy;rw[d];simp
theorem Tryz.eTok:zC2 prog 156 4 40:=zDH (z:= .agg #[.int .i64 0,.int .i64 0,.int .i64 0,.string ⟨#[]⟩]) (by kernel_rfl) rfl (by decide)
def zF0(s:ByteArray)(w:World)(e:Ending)(w':World):Prop:=
 ∃v,e= .returned (.tuple #[v,.int .i64 (zCg s).2.1,.int .i64 (zCg s).2.2])/\w'.ownsRow w.heap.size 156 4 v (zCg s).1.length ((zCg s).1.flatMap Tok.cells)/\Bw w w'
theorem zGJ{a:List Tok}{n e:Int}(h:zCg s=(a,n,e))(c:w'.ownsRow w.heap.size 156 4 v a.length (a.flatMap Tok.cells))(b:Bw w w'):
  zF0 s w (.returned (.tuple #[v,.int .i64 n,.int .i64 e])) w':=by
 unfold zF0;rw[h];exact⟨v,rfl,c,b⟩
theorem zBi(w:World)(base:Nat)(e:TypeId)(a:Nat):w.ownsRow base e a (.slice none 0 0) 0 []:=World.ownsRow_nil w base e a
theorem own_below{e:TypeId}{a n:Nat}{xs:List Value}(h:w.ownsRow base e a v n xs)(b:Bw w w'):w'.ownsRow base e a v n xs:=
 h.kept (row:=none) ⟨b.os,b.tape,b.output,b.size,λk c _=>b.block k c⟩ (by cases d:v.ownBlock<;>simp)
theorem zIn{g:Nat}(h:Blk W g t cs.toArray):∀j u,cs[j]? =some u->W.cell? ⟨g,0+j,none⟩=some u:=λj u a=>by
 rw[Nat.zero_add,h.cell];simpa using a
theorem zSh(s:ByteArray)(w:World)(c:20000<s.size)(d:s.size<=140737488355328):
  Calls prog 101 #[.string s] w (zF0 s w):=by
 have a:zCg s=([],2,-1):=by unfold zCg;rw[if_pos c]
 have b:=hid a;clear a;go_enter func101,ntmps101
 go_wp2;go_ret3;exact zGJ b (zBi _ _ _ _) (Below.refl _ _)
theorem zR4(s:ByteArray)(w:World)(hs:s.size<=20000):
  Calls prog 101 #[.string s] w (zF0 s w):=by
 have hl:zCg s=zFx s (s.size+1) (zEc s 0) []:=by unfold zCg;rw[if_neg (by omega)]
 have HL:=hid hl;have ad:=zPr s;have R:(zAw zFS).size =256:=by rw[zEV,zHK]
 have ae:=zJg s (i:=0) (by omega);clear hl;go_enter func101,ntmps101
 go_wp2_with fail
 refine(zO0 _).mono ?_;rintro e C ⟨rfl,J⟩;have ah:=J.size;go_wp2_with(refine zN rfl 219 _ _ rfl rfl rfl (Blk.new _ _ _) (by rw[Tryz.zc179,zFZ]) (by rw[zFZ];exact Tryz.sz179) (zMu s) ?_;intro w2 V Y Z);have b:=zR0 V;have D:Bw w w2:=J.trans ((zAG (zG C _) Y (Nat.le_refl _) (by simp)).mono (by omega));clear ad R V Y J;have hS:C.heap.size<w2.heap.size:=by rw[Z];simp
 have ap:w.heap.size<=C.heap.size:=ah;go_wp2_with fail
 refine(zPK C.heap.size s 0 w2 b (by omega) (by omega) (by omega)).mono ?_;rintro e H ⟨rfl,K⟩;have z:=b.below K hS;have c:=zC D K;clear b D K Z;have T:C.heap.size<H.heap.size:=z.lt;have aa:=hid ae;go_wp2;go_loopw[6,7] (λv i wr=>∃(k f:Nat)(a:List Tok),k<=s.size/\i= .int .i64 k/\s.size<f+k/\Hid (zFx s f k a=zCg s)/\a.length<=5000/\wr.ownsRow H.heap.size 156 4 v a.length (a.flatMap Tok.cells)/\zBB wr C.heap.size s/\Bw H wr) (λ_ i _=>s.size+1-(intOf i).toNat)
 case atStart=>
  refine⟨zEc s 0,s.size+1,[],aa.2,rfl,by omega,HL.symm,by simp,zBi _ _ _ _,z,.refl _ _⟩
 case round=>
  obtain⟨k,f,a,hk,rfl,hf,E,aj,j,b,hb⟩:=hrel;clear z;obtain⟨oA,al,rfl,-,-,-⟩:=Row.of_own j (by decide);obtain⟨f,rfl⟩:∃f',f=f'+1:=⟨f-1,by omega⟩;have ak:H.heap.size<=wr.heap.size:=hb.size;by_cases B:k<s.size
  ·have hN:=hid (zSc C.heap.size s k wr b B (by omega))
   have M:zCg s=(if(zBG s k).2.2=0/\a.length=5000 then([],2,(k:Int))else if(zBG s k).2.2≠0 then([],(zBG s k).2.2,(k:Int))else zFx s f (zEc s (zBG s k).2.1.toNat) (a++[(zBG s k).1])):=by
    rw[<-E.out,zFx,if_pos B]
   have u:=zN9 B;unfold zDM at hN;generalize zBG s k=q at*;obtain⟨⟨kd,ps,nu,tx⟩,en,er⟩:=q;simp only[Tok.cells]at hN M u;have Q:=hid M;have ab:=hid u;clear M u;(go_wp2_with fail);refine hN.mono ?_;rintro e w4 ⟨rfl,A⟩;have F:=b.below A b.lt;have x:=own_below j A;have t:Bw H w4:=zC hb A;have g:=t.size;have I:=hid (And.intro F (And.intro x t));clear b j hb A hN x t F;by_cases O:er=0
   ·subst O;by_cases d:a.length=5000
    ·(have af:(((a.length:Nat):Int)==5000)=true:=by simp;omega);have n:=Q.out;rw[if_pos ⟨rfl,d⟩]at n;have o:=hid n;clear n d;go_wp2;go_ret3;exact zGJ o (zBi _ _ _ _) (c.trans ((I.2.2.alloc g _).mono (by omega)))
    (have af:(((a.length:Nat):Int)==5000)=false:=by simp;omega);have n:=Q.out;rw[if_neg (λh=>d h.2),if_neg (by simp)]at n;have o:=hid n;have u:=ab rfl;have X:=zJg s (i:=en.toNat) (by omega);have HG:=hid X;obtain⟨m,rfl⟩:∃m:Nat,en=m:=⟨en.toNat,by omega⟩;simp only[Int.toNat_natCast]at X u;have ag:H.heap.size<=w4.heap.size:=g;clear n;go_wp2_with(at_builtin;refine zh rfl (.tmp 41) (.tmp 43) _ rfl underlying152 Tryz.eTok rfl ((I.2.1.alloc _).alloc _) rfl (news:=[.int .i64 kd,.int .i64 ps,.int .i64 nu,.string tx]) rfl (zIn (zFW _ _ _ _)) (by simp[Value.oneCell']) (by unfold maxLen;omega) (by omega) (by simp;omega) ?_;intro v1 w5 y N U);have W:Bw H w5:=zAs ((I.2.2.alloc g _).alloc (by simp;omega) _) ((I.2.1.alloc _).alloc _) N (by simp;omega) (Nat.le_refl _)
    have G:zBB w5 C.heap.size s:=by
     have b:=(I.1.alloc (.cells #[.int .i64 kd,.int .i64 ps,.int .i64 nu,.string tx] 156)).alloc (.cells #[.int .i64 kd,.int .i64 ps,.int .i64 nu,.string tx] 156);have ac:Below H.heap.size _ w5:=zAs (.refl _ _) ((I.2.1.alloc _).alloc _) N (by simp;omega) (Nat.le_refl _);exact b.below ac T
    have P:=hid (And.intro y (And.intro W G));clear y N U W G;(go_wp2_with fail);refine(zPK C.heap.size s m w5 P.2.2 (by omega) (by omega) (by omega)).mono ?_;rintro e w6 ⟨rfl,L⟩;go_wp2;go_roundw
    case rel=>
     refine⟨zEc s m,f,a++[⟨kd,ps,nu,tx⟩],by omega,by simp,by omega,(by have:=o.out;rw[Int.toNat_natCast]at this;exact this.symm),by simp;omega,?_,P.2.2.below L P.2.2.lt,zC P.2.1 L⟩;have:=own_below P.1 L;simpa[Tok.cells]using this
    case measure=>simp[intOf];omega
   have n:=Q.out;rw[if_neg (λh=>O h.1),if_pos O]at n;have o:=hid n;(have ao:(er==(0:Int))=false:=by simp[O]);(have ai:(er !=(0:Int))=true:=by simp[O]);clear n O;go_wp2;go_ret3;exact zGJ o (zBi _ _ _ _) (c.trans ((I.2.2.alloc g _).mono (by omega)))
  have n:zCg s=(a,0,0):=by rw[<-E.out,zFx,if_neg B]
  have Q:=hid n;clear n;go_wp2;go_ret3;exact zGJ Q (zIQ j (by omega)) (c.trans (hb.mono (by omega)))
theorem zPR(s:ByteArray)(w:World)(a:s.size<=140737488355328):Calls prog 101 #[.string s] w (zF0 s w):=by
 by_cases h:s.size<=20000
 ·exact zR4 s w h
 exact zSh s w (by omega) a
theorem zMO{s:ByteArray}(h:(zCg s).2.1≠0\/(zCg s).1.length ≠1):zAy s=false:=by
 unfold zAy;split
 ·rename_i heq;rw[heq]at h;simp at h
 rfl
theorem zKj{s:ByteArray}{t:Tok}{e:Int}(h:zCg s=([t],0,e)):zAy s=(t.kind==1&&decide (t.text=s)):=by
 unfold zAy;rw[h];rfl
theorem zLd(s:ByteArray)(w:World)(E:s.size<=140737488355328):
  Calls prog 236 #[.string s] w λe w'=>e= .returned (.bool (zAy s))/\Bw w w':=by
 have y:=hid (zPR s w E);have o:=hid (@zMO s);have z:=hid (λt e=> @zKj s t e);go_enter func236,ntmps236
 go_wp2_with fail
 refine y.mono ?_;unfold zF0;rintro e K ⟨v,rfl,c,i⟩;obtain⟨g,n,B⟩:∃x,x=zCg s:=⟨_,rfl⟩;generalize k:zCg s=L at*;obtain⟨g,n,B⟩:=L;dsimp only at*;obtain⟨A,cap,rfl,q,F,a⟩:=Row.of_own c (by decide);by_cases m:n=0
 ·subst m;by_cases h:g.length=1
  ·obtain⟨t,rfl⟩:∃t,g=[t]:=by
    cases g with
    |nil=>simp at h
    |cons t r=>cases r with
     |nil=>exact⟨t,rfl⟩
     |cons _ _=>simp at h
   have d:=hid (z _ _ rfl);obtain⟨b,H,rfl,J,f⟩:=a (by simp[Tok.cells]);obtain⟨I,c1,c2,c3⟩:=zEQ (λj u G=>f j u (by simpa[Tok.cells]using G));clear f k a c;simp only[List.length_cons,List.length_nil,Nat.zero_add]at*;go_wp2;all_goals(go_ret;exact⟨zI (by rw[d.out];first|(simp_all;done)|(rw[zBK];simp_all)),i⟩)
  have d:=hid (o (.inr h));have C:((g.length:Int)==1)=false:=by simp;omega
  clear h k;go_wp2;go_ret;exact⟨zI (by rw[d.out]),i⟩
 have d:=hid (o (.inl m));have D:(n==0)=false:=by simp[m]
 clear k;go_wp2;go_ret;exact⟨zI (by rw[d.out]),i⟩
def zHs:List ByteArray:=[⟨#[111,114]⟩,⟨#[97,110,100]⟩,⟨#[110,111,116]⟩,⟨#[116,114,117,101]⟩,⟨#[102,97,108,115,101]⟩]
def zQG(s:ByteArray):Bool:=Lib.containsS zHs s
theorem zT6(s:ByteArray)(w:World):
  Calls prog 237 #[.string s] w λe w'=>e= .returned (.bool (zQG s))/\Bw w w':=by
 let W:=w.alloc (.cells #[.string ⟨#[111,114]⟩,.string ⟨#[97,110,100]⟩,.string ⟨#[110,111,116]⟩,.string ⟨#[116,114,117,101]⟩,.string ⟨#[102,97,108,115,101]⟩] 9)
 have a:=hid (Tryz.slices_Contains_string w.heap.size 0 5 5 zHs s W (by decide) (by decide) (λj b=>by
  have:j<5:=b
  match j,this with
  |0,_=>simp[W,zHs]
  |1,_=>simp[W,zHs]
  |2,_=>simp[W,zHs]
  |3,_=>simp[W,zHs]
  |4,_=>simp[W,zHs]))
 go_enter func237,ntmps237
 go_wp2_with fail
 refine a.mono ?_;rintro e c ⟨rfl,rfl⟩;go_wp2;go_ret;exact⟨rfl,(Below.refl _ _).alloc (Nat.le_refl _) _⟩
def zCC(f:Fm):Bool:=
 if f.op=3 then decide (f.kids.length=0)&&decide (1<=f.cmp)&&decide (f.cmp<=6)&&zAy f.name&& !zQG f.name
 else if f.name≠⟨#[]⟩\/f.cmp≠0\/f.num≠0 then false
 else if f.op=1\/f.op=2 then decide (f.kids.length=0)
 else if f.op=4 then decide (f.kids.length=1)
 else(decide (f.op=5)||decide (f.op=6))&&decide (2<=f.kids.length)
theorem zG7{f:Fm}(h:f.op=3):zCC f=(decide (f.kids.length=0)&&decide (1<=f.cmp)&&decide (f.cmp<=6)&&zAy f.name&& !zQG f.name):=if_pos h
theorem zEz{f:Fm}(h:f.op≠3):zCC f= 
 if f.name≠⟨#[]⟩\/f.cmp≠0\/f.num≠0 then false
 else if f.op=1\/f.op=2 then decide (f.kids.length=0)
 else if f.op=4 then decide (f.kids.length=1)
 else(decide (f.op=5)||decide (f.op=6))&&decide (2<=f.kids.length):=by
 unfold zCC;rw[if_neg h]
theorem zJi(s:ByteArray):s.toList.isEmpty=decide (s=⟨#[]⟩):=by
 rw[<-zBK];have:(⟨#[]⟩:ByteArray).toList =[]:=by rw[ByteArray.toList_eq]
 rw[this];cases s.toList<;>rfl
theorem zQH(Z:zD)(f:Fm)(cs:List Value)(w:World)(q:FmR Z w f cs):
  Calls prog 204 #[.agg cs.toArray] w λe w'=>e= .returned (.bool (zCC f))/\Bw w w':=by
 have u:f.name.size<=140737488355328:=by cases f;unfold FmR at q;exact q.2.1
 have C:f.kids.length<=4611686018427387904:=by cases f;unfold FmR at q;obtain⟨_,_,_,_,A,cap,_,_,_,h,_⟩:=q;simp only[Fm.kids];omega
 obtain⟨A,cap,rfl⟩:=FmR.form q;clear q;have x:=hid (@zG7 f);have y:=hid (@zEz f);have s:=hid (λw=>zLd f.name w u);by_cases j:f.op=3
 ·have a:=hid (x j);have z:(f.op==(3:Int))=true:=by simp[j]
  clear y x;generalize f.kids.length=n at*;have g:∀b,zCC f=b->∀w',Bw w w'->(Ending.returned (.bool b)= .returned (.bool (zCC f))/\Bw w w'):=λb e w' h=>⟨by rw[e],h⟩
  have c:=hid g;clear g;by_cases E:n=0
  ·subst E;by_cases m:1<=f.cmp
   ·by_cases o:f.cmp<=6
    ·(go_enter func204,ntmps204);(go_wp2_with fail);refine(s _).mono ?_;rintro e F ⟨rfl,t⟩;obtain⟨J,K⟩:=zHB t;have k:Bw w F:=(zG w _).trans (t.mono (by simp));have G:=hid (zT6 f.name F);cases i:zAy f.name
     ·have d:=hid (c false (by rw[a.out,i];simp));clear a c;go_wp2;go_ret;exact d _ k
     dsimp only;(go_wp2_with fail);refine G.mono ?_;rintro e O ⟨rfl,B⟩;have d:=hid (c (!zQG f.name) (by rw[a.out,i];simp[m,o]));go_wp2;go_ret;exact d _ (k.trans (B.mono k.size))
    have d:=hid (c false (by rw[a.out];simp[o]));clear a c s;(go_enter func204,ntmps204);go_wp2;go_ret;exact d _ ((Below.refl _ _).alloc (Nat.le_refl _) _)
   have d:=hid (c false (by rw[a.out];simp[m]));clear a c s;(go_enter func204,ntmps204);go_wp2;go_ret;exact d _ ((Below.refl _ _).alloc (Nat.le_refl _) _)
  have d:=hid (c false (by rw[a.out];simp[E]));have H:((n:Int)==0)=false:=by simp;omega
  clear a c s;go_enter func204,ntmps204
  go_wp2;go_ret;exact d _ ((Below.refl _ _).alloc (Nat.le_refl _) _)
 have a:=hid (y j);have z:(f.op==(3:Int))=false:=by simp[j]
 clear j;generalize f.kids.length=n at*;go_enter func204,ntmps204
 repeat' (first|(go_big_may;fail)|((with_reducible apply zBU);rfl;first|((with_reducible apply zBT);rfl;rfl;rfl;exact zAn.app;intro L I;(simp only[nr]))|((with_reducible apply zAF);rfl;rfl;rfl;exact(by constructor);(intro v;(try simp only[Bool.and_eq_true,Bool.not_eq_true']at v);(first|subst v|(obtain⟨m,o⟩:=v;subst m;subst o)|(obtain⟨⟨m,o⟩,j⟩:=v;subst m;subst o;subst j));(try simp only[zm,z7,Bool.not_true,Bool.not_false,Bool.true_and,Bool.false_and,Bool.and_self]);go_simp;with_reducible rfl);(simp only[nr])))|((with_reducible apply zAj);rfl;rfl;first|((with_reducible apply zAg);rfl;rfl;rfl;rfl;(simp only[nr]))|((with_reducible apply zAh);rfl;rfl;rfl;rfl;(simp only[nr]))|((with_reducible apply zAR);rfl;rfl;rfl;rfl;rfl;(simp only[nr]))|((with_reducible apply zA7);rfl;rfl;rfl;rfl;rfl;(simp only[nr])))|go_values|go_guarded|go_step|go_upon|go_back|dsimp only)
 all_goals(go_ret;refine⟨zI ?_,(Below.refl _ _).alloc (Nat.le_refl _) _⟩)
 all_goals
  clear x y s C u;simp only[Hid]at*;rw[a];clear a;simp only[zJi]at*
  subst_vars
  generalize f.op=op at*;generalize f.cmp=M at*;generalize f.num=N at*;by_cases D:f.name=⟨#[]⟩<;>simp[D]at* <;>repeat' split;all_goals try simp_all
  all_goals try omega
  all_goals(rw[Bool.eq_iff_iff];simp)
  all_goals try omega
def zAB(ds:List zE)(f:Fm):Int:=
 if zCC f=false then 1 else if f.op≠3 then 0 else if f.num<0\/1000000<f.num then 10 else if zBD ds f.name<0 then 7 else 0
def zBY(ds:List zE)(f:Fm):Int:=if zDl f=true then 2 else zA0 (zAB ds) f
theorem zQI(Z:zD)(B:Nat)(v:Value)(ds:List zE)(f:Fm)(cs:List Value)(w:World)(x:FmR Z w f cs)(F:Facts Z w v ds)(s:One w B v):
  Calls prog 203 #[.agg cs.toArray,.pointer (some ⟨B,0,none⟩)] w λe w'=>e= .returned (.int .i64 (zAB ds f))/\Bw w w':=by
 obtain⟨A,cap,rfl⟩:=FmR.form x;have H:=hid (λo=>zQH Z f _ (w.alloc o) (FmR.keep (.alloc (.refl _ _) o) _ _ x));have I:=hid (λw'(h:Bw w w')=>zIX Z v ds f.name w' (F.keep (.of_below h)));obtain⟨⟨D,k,rfl,-,-,-,-⟩,-⟩:=F;have t:=s.cell;have N:=s.free;have u:=s.lt;clear x;go_enter func203,ntmps203
 go_wp2_with fail
 refine(H _).mono ?_;rintro e E ⟨rfl,m⟩;obtain⟨O,P⟩:=zHB m;have a:Bw w E:=(zG w _).trans (m.mono (by simp));have d:=hid (show zAB ds f=if zCC f=false then 1 else if f.op≠3 then 0 else if f.num<0\/1000000<f.num then 10 else if zBD ds f.name<0 then 7 else 0 from rfl);generalize zCC f=L at*;have i:∀b,zAB ds f=b->∀w',Bw w w'->(Ending.returned (.int .i64 b)= .returned (.int .i64 (zAB ds f))/\Bw w w'):=λb e w' h=>⟨by rw[e],h⟩
 have g:=hid i;clear i;obtain⟨J,K⟩:E.cell? ⟨B,0,none⟩=some (.slice D ds.length k)/\B<E.heap.size:=⟨by rw[a.cell u];exact t,by have:=a.size;omega⟩;cases L
 ·have c:=hid (g 1 (by rw[d.out];simp));clear g d;dsimp only;go_wp2;go_ret;exact c _ a
 dsimp only;by_cases q:f.op=3
 ·by_cases y:f.num<0\/1000000<f.num
  ·have c:=hid (g 10 (by rw[d.out];simp[q,y]));clear g d;by_cases z:f.num<0
   ·go_wp2;go_ret;exact c _ a
   (have C:1000000<f.num:=by omega);go_wp2;go_ret;exact c _ a
  have j:=hid (show zAB ds f=if zBD ds f.name<0 then 7 else 0 by rw[d.out];simp[q,y]);clear d;have z:¬f.num<0:=by omega
  have C:¬1000000<f.num:=by omega
  clear y;go_wp2_with fail
  refine(I _ a).mono ?_;rintro e Q ⟨rfl,n⟩;dsimp only;by_cases G:zBD ds f.name<0
  ·have c:=hid (g 7 (by rw[j.out];simp[G]));go_wp2;go_ret;exact c _ (a.trans (n.mono a.size))
  have c:=hid (g 0 (by rw[j.out];simp[G]));go_wp2;go_ret;exact c _ (a.trans (n.mono a.size))
 have c:=hid (g 0 (by rw[d.out];simp[q]));have M:(f.op==(3:Int))=false:=by simp[q]
 clear g d;go_wp2;go_ret;exact c _ a
theorem zIo(Z:zD)(v:Value)(ds:List zE)(f:Fm)(cs:List Value)(w:World)(s:FmR Z w f cs)(F:Facts Z w v ds)(z:zH f<=4000000000000000000)(Q:∀b,Z b->b<w.heap.size):
  Calls prog 148 #[.agg cs.toArray,.agg #[v]] w λe w'=>e= .returned (.int .i64 (zBY ds f))/\Bw w w':=by
 obtain⟨A,cap,rfl⟩:=FmR.form s;have q:=F;obtain⟨⟨D,d,rfl,-,-,-,-⟩,-⟩:=F;have L:∀k w,(callFunc 203 k).run prog w= .ok (.enter 203 k) w:=enters_of func203 (by kernel_rfl) rfl;have B:∀W,w.heap.size<=W->∀b,Z b->b<W:=λW h b N=>Nat.lt_of_lt_of_le (Q b N) h
 have J:=hid (λw'(h:Bw w w')=>zST Z f _ w' (FmR.keep (.of_below h) _ _ s) z (B _ h.size));have C:=hid (show zBY ds f=if zDl f=true then 2 else zA0 (zAB ds) f from rfl);let g:=(w.alloc (.cells #[.int .i64 f.op,.string f.name,.int .i64 f.cmp,.int .i64 f.num,.slice A f.kids.length cap] 52)).alloc (.cells #[.slice D ds.length d] 25);have c:Bw w g:=((Below.refl _ _).alloc (Nat.le_refl _) _).alloc (by simp) _
 have m:One g (w.heap.size+1) (.slice D ds.length d):=by
  have:=One.new (w.alloc (.cells #[.int .i64 f.op,.string f.name,.int .i64 f.cmp,.int .i64 f.num,.slice A f.kids.length cap] 52)) (.slice D ds.length d) 25;simp only[World.size_alloc]at this;exact this
 have M:g.heap.size=w.heap.size+2:=by simp[g]
 have H:=hid (λi(a:Bw g i)=>zSU 203 #[.pointer (some ⟨w.heap.size+1,0,none⟩)] L Z (zAB ds) i
  (λx cs W P E=>zQI Z (w.heap.size+1) _ ds x cs W P (q.keep (.of_below (c.trans ((a.trans (E.mono a.size)).mono c.size)))) (m.of_block ((a.trans (E.mono a.size)).block _ (by omega)))) (zH f) f (Nat.le_refl _) _ i (FmR.keep (.of_below (c.trans (a.mono c.size))) _ _ s) (.refl _ _))
 clear s q;go_enter func148,ntmps148
 go_wp2_with fail
 refine(J g c).mono ?_;rintro e i ⟨rfl,a⟩;dsimp only;have n:Bw w i:=c.trans (a.mono c.size);obtain⟨R,K⟩:i.cell? ⟨w.heap.size+1,0,none⟩=some (.slice D ds.length d)/\w.heap.size+1<i.heap.size:=⟨by rw[a.cell (by show w.heap.size+1<g.heap.size;omega)];exact m.cell,by have:=a.size;omega⟩
 obtain⟨T,U,V,X,Y⟩:=zAL (w:=i) (b:=w.heap.size) (o:=0) (v0:= .int .i64 f.op) (v1:= .string f.name) (v2:= .int .i64 f.cmp) (v3:= .int .i64 f.num) (v4:= .slice A f.kids.length cap) (λj u O=>by
  rw[a.cell (by show w.heap.size<g.heap.size;omega)]
  match j,O with
  |0,h=>simpa[g]using h
  |1,h=>simpa[g]using h
  |2,h=>simpa[g]using h
  |3,h=>simpa[g]using h
  |4,h=>simpa[g]using h)
 cases G:zDl f
 ·have I:=hid (H i a);go_wp2_with fail
  refine I.mono ?_;rintro e w2 ⟨rfl,y⟩;have t:=hid (show zA0 (zAB ds) f=zBY ds f by rw[C.out,G];simp);go_wp2;go_ret;exact⟨zAz t.out,n.trans (y.mono n.size)⟩
 have t:=hid (show 2=zBY ds f by rw[C.out,G];simp);go_wp2;go_ret;exact⟨zAz t.out,n⟩
def zHt(x cm n:Int):Bool:=
 if cm=1 then x==n else if cm=2 then x !=n else if cm=3 then decide (x<n)else if cm=4 then decide (x<=n)else if cm=5 then decide (n<x)else if cm=6 then decide (n<=x)else false
mutual
def evF(ds:List zE)(c:List Int):Fm->Bool
 | .mk op nm cm nu kids=>if op=3 then zHt (c.getD (zBD ds nm).toNat 0) cm nu else if op=4 then !zG8 ds c kids else if op=5 then zKK ds c kids else if op=6 then zG8 ds c kids else decide (op=1)
def zKK(ds:List zE)(c:List Int):List Fm->Bool
 |[]=>true
 |k::ks=>evF ds c k&&zKK ds c ks
def zG8(ds:List zE)(c:List Int):List Fm->Bool
 |[]=>false
 |k::ks=>evF ds c k||zG8 ds c ks
end
theorem zNd(ds:List zE)(c:List Int)(f:Fm):evF ds c f=if f.op=3 then zHt (c.getD (zBD ds f.name).toNat 0) f.cmp f.num else if f.op=4 then !zG8 ds c f.kids else if f.op=5 then zKK ds c f.kids else if f.op=6 then zG8 ds c f.kids else decide (f.op=1):=by
 cases f;rw[evF];rfl
theorem zHu(ds:List zE)(c:List Int):∀l,zG8 ds c l=l.any (evF ds c)
 |[]=>by simp[zG8]
 |k::ks=>by simp[zG8,zHu ds c ks]
theorem zHv(ds:List zE)(c:List Int):∀l,zKK ds c l=l.all (evF ds c)
 |[]=>by simp[zKK]
 |k::ks=>by simp[zKK,zHv ds c ks]
theorem zSi(ds:List zE)(c:List Int)(l:List Fm):zKK ds c l= !(l.any λk=> !evF ds c k):=by
 rw[zHv];induction l with
 |nil=>rfl
 |cons a l ih=>simp[ih]
theorem cell_below{a w w':World}{p:Addr}(h:Bw a w)(b:Bw w w')(d:p.block<a.heap.size)(c:w.cell? p=some v):w'.cell? p=some v:=by
 rw[b.cell (Nat.lt_of_lt_of_le d h.size)];exact c
theorem zDD{L:Fm->Int}(h:zA0 L f=0):L f=0/\zAZ L f.kids=0:=by
 rw[zFd]at h;by_cases a:L f=0
 ·rw[if_pos a]at h;exact⟨a,h⟩
 rw[if_neg a]at h;exact absurd h a
theorem zCZ{L:Fm->Int}:∀{l:List Fm},zAZ L l=0->∀k(c:k<l.length),zA0 L l[k]=0
 |[],_,k,c=>absurd c (Nat.not_lt_zero _)
 |a::l,h,k,c=>by
  rw[zAZ]at h;by_cases b:zA0 L a=0
  ·rw[if_pos b]at h
   cases k with
   |zero=>exact b
   |succ k=>exact zCZ h k (by simpa using c)
  rw[if_neg b]at h;exact absurd h b
theorem zEL(h:zAB ds f=0):zCC f=true/\(f.op=3->0<=f.num/\f.num<=1000000/\0<=zBD ds f.name):=by
 unfold zAB at h;cases a:zCC f
 ·rw[if_pos a]at h;omega
 refine⟨rfl,λb=> ?_⟩;rw[if_neg (by simp[a]),if_neg (by simp[b])]at h;split at h
 ·omega
 split at h
 ·omega
 omega
def zLe(l:List Fm)(q:Fm->Bool)(i:Nat):Bool:=match l[i]? with|some x=>q x|none=>false
theorem zJY{l:List Fm}{q:Fm->Bool}(hi:i<l.length):zLe l q i=q l[i]:=by simp[zLe,List.getElem?_eq_getElem hi]
theorem zIp(l:List Fm)(q:Fm->Bool):decide ((0:Int)<=firstIdx (zLe l q) l.length 0)=l.any q:=by
 rw[Bool.eq_iff_iff,decide_eq_true_eq,List.any_eq_true];rcases zDe (zLe l q) l.length 0 with⟨k,_,h2,h3,_,h5⟩|⟨h1,h2⟩
 ·rw[h5];have a:k<l.length:=by omega
  rw[zJY a]at h3;exact⟨λ_=>⟨_,List.getElem_mem a,h3⟩,λ_=>by omega⟩
 rw[h2];constructor
 ·intro h;omega
 rintro⟨x,hx,hq⟩;obtain⟨j,b,rfl⟩:=List.getElem_of_mem hx;have:=h1 j (Nat.zero_le _) (by omega);rw[zJY b]at this;simp[hq]at this
theorem zA2(h:Bw w W)(a:Bw W w'):Bw w w':=h.trans (a.mono h.size)
theorem zHw{a b c d:Value}(h:FmR Z w f [a,b,c,d,.slice A f.kids.length cap]):zAW (λcs f=>FmR Z w f cs) 5 Z w f.kids A/\f.kids.length*56<=140737488355328:=by
 cases f;unfold FmR at h;obtain⟨_,_,_,_,j,g,e,_,_,i,h⟩:=h;injection e with _ e;injection e with _ e;injection e with _ e;injection e with _ e;injection e with e;injection e with e;subst e;exact⟨zAD.seq h,i⟩
theorem Tryz.idx7_1(b a c d e f g:Value)(w:World):(Instr.index 213 (.agg #[b,a,c,d,e,f,g]) (.int .i64 1)).run prog w= .ok a w:=by kernel_rfl
theorem Tryz.idx7_2(b c a d e f g:Value)(w:World):(Instr.index 213 (.agg #[b,c,a,d,e,f,g]) (.int .i64 2)).run prog w= .ok a w:=by kernel_rfl
theorem Tryz.idx7_3(b c d a e f g:Value)(w:World):(Instr.index 213 (.agg #[b,c,d,a,e,f,g]) (.int .i64 3)).run prog w= .ok a w:=by kernel_rfl
theorem Tryz.idx7_4(b c d e a f g:Value)(w:World):(Instr.index 213 (.agg #[b,c,d,e,a,f,g]) (.int .i64 4)).run prog w= .ok a w:=by kernel_rfl
theorem Tryz.idx7_5(b c d e f a g:Value)(w:World):(Instr.index 213 (.agg #[b,c,d,e,f,a,g]) (.int .i64 5)).run prog w= .ok a w:=by kernel_rfl
theorem Tryz.idx7_6(b c d e f g a:Value)(w:World):(Instr.index 213 (.agg #[b,c,d,e,f,g,a]) (.int .i64 6)).run prog w= .ok a w:=by kernel_rfl
theorem Tryz.idx7_cmp(x n a:Int)(c:1<=a)(d:a<=6)(w:World):(Instr.index 213 (.agg #[.bool false,.bool (x==n),.bool (x !=n),.bool (decide (x<n)),.bool (decide (x<=n)),.bool (decide (n<x)),.bool (decide (n<=x))]) (.int .i64 a)).run prog w= .ok (.bool (zHt x a n)) w:=by
 have b:a=1\/a=2\/a=3\/a=4\/a=5\/a=6:=by omega
 rcases b with rfl|rfl|rfl|rfl|rfl|rfl
 ·exact Tryz.idx7_1 ..
 ·exact Tryz.idx7_2 ..
 ·exact Tryz.idx7_3 ..
 ·exact Tryz.idx7_4 ..
 ·exact Tryz.idx7_5 ..
 exact Tryz.idx7_6 ..
def zNC(Bc Bd Bs:Nat):Value:= .func (.func 149) #[] #[.pointer (some ⟨Bc,0,none⟩),.pointer (some ⟨Bd,0,none⟩),.pointer (some ⟨Bs,0,none⟩)]
theorem Tryz.egHolds1:∀args w,(callFunc 149 args).run prog w= .ok (.enter 149 args) w:=enters_of func149 (by kernel_rfl) rfl
theorem Tryz.egHolds11:∀args w,(callFunc 152 args).run prog w= .ok (.enter 152 args) w:=enters_of func152 (by kernel_rfl) rfl
theorem zOf(Bc Bd Bs:Nat)(a b c d e:Value)(w:World)(r:Bool)(f:w.cell? ⟨Bs,0,none⟩=some (zNC Bc Bd Bs))
  (h:∀W,Bw w W->Calls prog 149 #[.agg #[a,b,c,d,e],.pointer (some ⟨Bc,0,none⟩),.pointer (some ⟨Bd,0,none⟩),.pointer (some ⟨Bs,0,none⟩)] W λe w'=>e= .returned (.bool r)/\Bw W w'):
  Calls prog 152 #[.agg #[a,b,c,d,e],.pointer (some ⟨Bs,0,none⟩)] w λe w'=>e= .returned (.bool (!r))/\Bw w w':=by
 have j:=lt_of_cell f;unfold zNC at f;have k:=Tryz.egHolds1;have i:=hid h;clear h;go_enter func152,ntmps152
 go_wp2_with fail
 refine(i _ (zG w _)).mono ?_;rintro e m ⟨rfl,g⟩;go_wp2;go_ret;exact⟨rfl,zA2 (zG w _) g⟩
theorem zQJ(Z:zD)(Bc Bd Bs:Nat)(v vc:Value)(ds:List zE)(c:List Int)(a5:c.length=ds.length):∀(m:Nat)(f:Fm),zH f<=m->∀(cs:List Value)(w:World),FmR Z w f cs->Facts Z w v ds->zO Z w vc c->One w Bd v->One w Bc vc->One w Bs (zNC Bc Bd Bs)->zA0 (zAB ds) f=0->
  Calls prog 149 #[.agg cs.toArray,.pointer (some ⟨Bc,0,none⟩),.pointer (some ⟨Bd,0,none⟩),.pointer (some ⟨Bs,0,none⟩)] w λe w'=>e= .returned (.bool (evF ds c f))/\Bw w w':=by
 intro m
 induction m with
 |zero=>intro f hm;have:=zCH f;omega
 |succ m ih=>
 intro f hm cs w hf hd hc G F z a3;have eg:=Tryz.egHolds1;have ap:=Tryz.egHolds11;have IH:=hid ih;clear ih;obtain⟨A,cap,rfl⟩:=FmR.form hf;obtain⟨h0,y⟩:=zDD a3;obtain⟨a,o⟩:=zEL h0;obtain⟨d,bf⟩:=zHw hf;have q:=hid (zNd ds c f);have P:=hd;have I:=hc;obtain⟨⟨D,ao,rfl,-,-,-,-⟩,-⟩:=hd;obtain⟨⟨C,al,rfl,-,-,-,-⟩,-⟩:=hc;have ah:=F.cell;have X:=F.lt;have ai:=G.cell;have Y:=G.lt;have aj:=z.cell;have aa:=z.lt;unfold zNC at aj;have ac:∀b,evF ds c f=b->∀w',Bw w w'->(Ending.returned (.bool b)= .returned (.bool (evF ds c f))/\Bw w w'):=λb e w' h=>⟨by rw[e],h⟩
 have R:=hid ac;clear ac;by_cases s:f.op=3
 ·obtain⟨a1,a2,Q⟩:=o s
  have az:1<=f.cmp/\f.cmp<=6:=by
   rw[zG7 s]at a;simp only[Bool.and_eq_true,decide_eq_true_eq]at a;omega
  obtain⟨k,hk,ae⟩:∃k:Nat,zBD ds f.name=k/\k<c.length:=by
   unfold zBD at Q⊢;rcases zDe (zFR ds f.name) ds.length 0 with⟨k,_,h2,s,_,L⟩|⟨h1,h2⟩
   ·exact⟨k,L,by omega⟩
   rw[h2]at Q;omega
  have ba:c.length<9223372036854775807:=by obtain⟨⟨_,_,_,_,_,h,_⟩,_⟩:=I;omega
  obtain⟨b,ag,rfl,hz,aq,O⟩:=zO.at_ I ae;have HI:=hid (λW(h:Bw w W)=>zIX Z _ ds f.name W (P.keep (.of_below h)));rw[hk]at HI;have hx:c.getD k 0=c[k]:=by simp[List.getD,ae]
  have U:=hid (R (zHt c[k] f.cmp f.num) (by rw[q.out,if_pos s,hk,Int.toNat_natCast,hx]));generalize c[k]=x at*;have bc:(k:Int)<c.length:=by omega
  have bd:k<ds.length:=by omega
  obtain⟨ar,au⟩:=az;clear R q d y a o h0 hx hk Q a1 a2;go_enter func149,ntmps149
  go_wp2_with fail
  have hB:=Blk.new w 52 #[.int .i64 3,.string f.name,.int .i64 f.cmp,.int .i64 f.num,.slice A f.kids.length cap];have ab:=zG w (.cells #[.int .i64 3,.string f.name,.int .i64 f.cmp,.int .i64 f.num,.slice A f.kids.length cap] 52);generalize w.alloc _=V at*;have T:=hid (And.intro hB ab)
  have n:=hid (λ(W:World)(hW:Bw V W)=>(show W.cell? ⟨Bc,0,none⟩=some (.slice (some ⟨b,ag,none⟩) c.length al)/\W.cell? ⟨b,ag+k,none⟩=some (.int .i64 x)/\W.cell? ⟨w.heap.size,1,none⟩=some (.string f.name)/\W.cell? ⟨w.heap.size,2,none⟩=some (.int .i64 f.cmp)/\W.cell? ⟨w.heap.size,3,none⟩=some (.int .i64 f.num)/\W.cell? ⟨Bd,0,none⟩=some (.slice D ds.length ao) from by
   have N:=ab.trans (hW.mono ab.size);have hx:=hB.below hW hB.lt
   exact⟨cell_below (.refl _ _) N X ah,cell_below (.refl _ _) N aq O,hx.cell 1,hx.cell 2,hx.cell 3,cell_below (.refl _ _) N Y ai⟩))
  have ay:w.heap.size<V.heap.size:=hB.lt;clear hB ab;refine zY 7 (λW=>Bw V W) (by kernel_rfl) ?_;have hS:(λW=>Bw V W) V.drew:=(Below.refl _ _).drew
  (refine tkS 0 ?_ hS ?_ ?_;rotate_left;intro w E;obtain⟨h0,h1,h2,s,M,L⟩:=n _ E;go_simp;(try with_reducible rfl);simp only[nr])
  (refine tkS 1 ?_ hS ?_ ?_;rotate_left;intro w E;obtain⟨h0,h1,h2,s,M,L⟩:=n _ E;go_simp;(try with_reducible rfl);simp only[nr])
  (refine tkQ 2 hS ?_;simp only[nr])
  (refine tkS 3 ?_ hS ?_ ?_;rotate_left;intro w E;obtain⟨h0,h1,h2,s,M,L⟩:=n _ E;go_simp;(try with_reducible rfl);simp only[nr])
  refine wS1 4 (λK hK=> ?_);go_wp2_with fail
  refine(HI _ T.2.drew).mono ?_;rintro e w1 ⟨rfl,t⟩;have H:Bw V w1:=((Below.refl V.heap.size V).drew).trans t;refine hK _ _ (Or.inr H) ?_;clear hK K t hS
  (try simp only[nr])
  have hS:(λW=>Bw V W) w1:=H
  (refine tkQ 5 hS ?_;simp only[nr])
  (refine tkS 6 ?_ hS ?_ ?_;rotate_left;intro w E;obtain⟨h0,h1,h2,s,M,L⟩:=n _ E;go_simp;(try with_reducible rfl);simp only[nr])
  refine wS1 7 (λK hK=> ?_);go_wp2_with fail
  refine hK _ _ (Or.inl rfl) ?_;clear hK K
  (try simp only[nr])
  refine wSd ?_ _;obtain⟨-,-,-,q3,q4,-⟩:=n _ H;have N:Bw w w1:=T.2.trans (H.mono T.2.size);have a4:w.heap.size<w1.heap.size:=Nat.lt_of_lt_of_le ay H.size;clear HI I F G z P eg ap IH hf n T hS H ah ai aj O;have bb:=Tryz.idx7_cmp x f.num f.cmp ar au;generalize f.cmp=cm at*;generalize f.num=nu at*;go_wp2;go_ret;exact U _ N
 have a6:(f.op==(3:Int))=false:=by simp[s]
 by_cases M:f.op=4
 ·have J:f.kids.length=1:=by
   rw[zEz s]at a;split at a
   ·simp at a
   simpa[M]using a
  obtain⟨g,hg⟩:∃g,f.kids=[g]:=by
   cases hk:f.kids with
   |nil=>rw[hk]at J;simp at J
   |cons x r=>rw[hk]at J;simp at J;exact⟨x,by rw[J]⟩
  have a0:zH g<zH f:=by have:=zCQ f;rw[hg]at this;simp[zV]at this;omega
  rw[hg]at d y;have av:zA0 (zAB ds) g=0:=zCZ y 0 (by simp);obtain⟨b,ag,cs,rfl,hz,B,af,-⟩:=d;have ad:=af;obtain⟨A',ak,rfl⟩:=FmR.form af;obtain⟨c0,c1,c2,c3,c4⟩:=zAL (λj u hu=>B j u hu);have HC:=hid (λW(h:Bw w W)=>IH g (by omega) _ W (FmR.keep (.of_below h) _ _ ad) (P.keep (.of_below h)) (I.keep (.of_below h)) (G.of_block (h.block _ Y)) (F.of_block (h.block _ X)) (z.of_block (h.block _ aa)) av)
  have U:=hid (R (!evF ds c g) (by
   rw[q.out,if_neg s,if_pos M,hg];simp[zG8]))
  have bg:(0:Int)<(f.kids.length:Nat):=by omega
  have bh:0<f.kids.length:=by omega
  have aq:=lt_of_cell c0;clear R q s B af ad a0 hg J y a o h0 av;go_enter func149,ntmps149
  go_wp2_with fail
  go_region_with(go_at_call 149;refine(HC _ (zG w _).drew).mono ?_;rintro e w1 ⟨rfl,t⟩);all_goals go_wp2
  all_goals(go_ret;exact U _ (zA2 (zG w _).drew t))
 have a7:(f.op==(4:Int))=false:=by simp[M]
 by_cases L:f.op=5
 ·have HP:=hid (zEW 152 #[.pointer (some ⟨Bs,0,none⟩)] ap (λcs x=>FmR Z w x cs) Z f.kids (zLe f.kids λx=> !evF ds c x) A cap (w.alloc (.cells #[.int .i64 f.op,.string f.name,.int .i64 f.cmp,.int .i64 f.num,.slice A f.kids.length cap] 52))
   (λcs x h=>by obtain⟨A,cap,rfl⟩:=FmR.form h;exact⟨_,_,_,_,_,rfl⟩) (d.imp (λ_ _ h=>h) (.alloc (.refl _ _) _) (λ_ h=>h)) (by omega) (λi Q cs B W hW=>by
    have aw:Bw w W:=zA2 (zG w _) hW;obtain⟨A',ak,rfl⟩:=FmR.form B;rw[zJY Q];refine zOf Bc Bd Bs _ _ _ _ _ W _ (by rw[aw.cell aa];exact z.cell) (λW' ax=> ?_);have h:Bw w W':=zA2 aw ax
    exact IH f.kids[i] (by have:=zFr Q;omega) _ W' (FmR.keep (.of_below h) _ _ B) (P.keep (.of_below h)) (I.keep (.of_below h)) (G.of_block (h.block _ Y)) (F.of_block (h.block _ X)) (z.of_block (h.block _ aa)) (zCZ y i Q)))
  have U:=hid (R (!(f.kids.any λx=> !evF ds c x)) (by rw[q.out,if_neg s,if_neg M,if_pos L,zSi]));have HQ:=hid (zIp f.kids (λx=> !evF ds c x));clear R q s d y a o h0;go_enter func149,ntmps149
  go_wp2_with fail
  rw[<-L];refine HP.mono ?_;rintro e w1 ⟨rfl,t⟩;go_wp2;go_ret;rw[HQ.out];exact U _ (zA2 (zG w _) t)
 have a8:(f.op==(5:Int))=false:=by simp[L]
 by_cases h6:f.op=6
 ·have HP:=hid (zEW 149 #[.pointer (some ⟨Bc,0,none⟩),.pointer (some ⟨Bd,0,none⟩),.pointer (some ⟨Bs,0,none⟩)] eg (λcs x=>FmR Z w x cs) Z f.kids (zLe f.kids λx=>evF ds c x) A cap (w.alloc (.cells #[.int .i64 f.op,.string f.name,.int .i64 f.cmp,.int .i64 f.num,.slice A f.kids.length cap] 52))
   (λcs x h=>by obtain⟨A,cap,rfl⟩:=FmR.form h;exact⟨_,_,_,_,_,rfl⟩) (d.imp (λ_ _ h=>h) (.alloc (.refl _ _) _) (λ_ h=>h)) (by omega) (λi Q cs B W hW=>by
    have h:Bw w W:=zA2 (zG w _) hW;rw[zJY Q]
    exact IH f.kids[i] (by have:=zFr Q;omega) _ W (FmR.keep (.of_below h) _ _ B) (P.keep (.of_below h)) (I.keep (.of_below h)) (G.of_block (h.block _ Y)) (F.of_block (h.block _ X)) (z.of_block (h.block _ aa)) (zCZ y i Q)))
  have U:=hid (R (f.kids.any λx=>evF ds c x) (by rw[q.out,if_neg s,if_neg M,if_neg L,if_pos h6,zHu]));have HQ:=hid (zIp f.kids (λx=>evF ds c x));clear R q s d y a o h0;go_enter func149,ntmps149
  go_wp2_with fail
  rw[<-h6];refine HP.mono ?_;rintro e w1 ⟨rfl,t⟩;go_wp2;go_ret;rw[HQ.out];exact U _ (zA2 (zG w _) t)
 have a9:(f.op==(6:Int))=false:=by simp[h6]
 have U:=hid (R (f.op==1) (by rw[q.out];simp[s,M,L,h6];rfl));clear R q s M L h6;go_enter func149,ntmps149
 go_wp2;go_ret;exact U _ ((Below.refl _ _).alloc (Nat.le_refl _) _)
def zFl(ds:List zE)(c:List Int)(f:Fm):Bool:=fits ds c&&zBY ds f==0&&evF ds c f
theorem zHO(h:zBY ds f=0):zDl f=false/\zA0 (zAB ds) f=0:=by
 unfold zBY at h;cases a:zDl f
 ·rw[a]at h;exact⟨rfl,by simpa using h⟩
 rw[a]at h;simp at h
theorem zSj(h:fits ds c=true):c.length=ds.length:=by
 unfold fits at h;simp only[Bool.and_eq_true,decide_eq_true_eq]at h;exact h.1.2
theorem zR5(Z:zD)(v vc:Value)(ds:List zE)(c:List Int)(f:Fm)(cs:List Value)(w:World)(O:FmR Z w f cs)(hd:Facts Z w v ds)(hc:zO Z w vc c)(ab:zH f<=4000000000000000000)(hz:∀b,Z b->b<w.heap.size):
  Calls prog 94 #[.agg cs.toArray,.agg #[v],vc] w λe w'=>e= .returned (.bool (zFl ds c f))/\Bw w w':=by
 obtain⟨A,cap,rfl⟩:=FmR.form O;have m:=hd;have x:=hc;obtain⟨⟨D,a,rfl,-,-,-,-⟩,-⟩:=hd;obtain⟨⟨C,g,rfl,-,-,-,-⟩,-⟩:=hc;have eg:=Tryz.egHolds1;have ac:∀W,w.heap.size<=W->∀b,Z b->b<W:=λW h b hb=>Nat.lt_of_lt_of_le (hz b hb) h
 have R:=hid (λW(h:Bw w W)=>zIi Z _ _ ds c W (m.keep (.of_below h)) (x.keep (.of_below h)));have P:=hid (λW(h:Bw w W)=>zIo Z _ ds f _ W (FmR.keep (.of_below h) _ _ O) (m.keep (.of_below h)) ab (ac _ h.size));have Q:=hid (show zFl ds c f=(fits ds c&&zBY ds f==0&&evF ds c f) from rfl);let k:=((w.alloc (.cells #[.int .i64 f.op,.string f.name,.int .i64 f.cmp,.int .i64 f.num,.slice A f.kids.length cap] 52)).alloc (.cells #[.slice D ds.length a] 25)).alloc (.cells #[.slice C c.length g] 34);have F:Bw w k:=(((Below.refl _ _).alloc (Nat.le_refl _) _).alloc (by simp) _).alloc (by simp;omega) _;have ag:k.heap.size=w.heap.size+3:=by simp[k]
 have q:∀W,Bw k W->(W.cell? ⟨w.heap.size,0,none⟩=some (.int .i64 f.op)/\W.cell? ⟨w.heap.size,1,none⟩=some (.string f.name)/\W.cell? ⟨w.heap.size,2,none⟩=some (.int .i64 f.cmp)/\W.cell? ⟨w.heap.size,3,none⟩=some (.int .i64 f.num)/\W.cell? ⟨w.heap.size,4,none⟩=some (.slice A f.kids.length cap))/\One W (w.heap.size+1) (.slice D ds.length a)/\One W (w.heap.size+2) (.slice C c.length g)/\w.heap.size+3<=W.heap.size:=by
  intro W N
  have U:One k (w.heap.size+1) (.slice D ds.length a):= .alloc (by
   have:=One.new (w.alloc (.cells #[.int .i64 f.op,.string f.name,.int .i64 f.cmp,.int .i64 f.num,.slice A f.kids.length cap] 52)) (.slice D ds.length a) 25;simp only[World.size_alloc]at this
   exact this) _
  have V:One k (w.heap.size+2) (.slice C c.length g):=by
   have:=One.new ((w.alloc (.cells #[.int .i64 f.op,.string f.name,.int .i64 f.cmp,.int .i64 f.num,.slice A f.kids.length cap] 52)).alloc (.cells #[.slice D ds.length a] 25)) (.slice C c.length g) 34;simp only[World.size_alloc]at this;exact this
  refine⟨zAL (λj u hu=> ?_),U.of_block (N.block _ (by omega)),V.of_block (N.block _ (by omega)),by have:=N.size;omega⟩;have X:Below (w.heap.size+1) (w.alloc (.cells #[.int .i64 f.op,.string f.name,.int .i64 f.cmp,.int .i64 f.num,.slice A f.kids.length cap] 52)) k:=((Below.refl _ _).alloc (by simp) _).alloc (by simp) _;rw[N.cell (by show w.heap.size<k.heap.size;omega),X.cell (Nat.lt_succ_self _)]
  match j,hu with
  |0,h=>simpa using h
  |1,h=>simpa using h
  |2,h=>simpa using h
  |3,h=>simpa using h
  |4,h=>simpa using h
 have HB:=hid q;clear q;have HH:=hid (λ(hl:c.length=ds.length)(aa:zA0 (zAB ds) f=0) Bs W(h:Bw w W) U V h3=>zQJ Z (w.heap.size+2) (w.heap.size+1) Bs _ _ ds c hl (zH f) f (Nat.le_refl _) _ W (FmR.keep (.of_below h) _ _ O) (m.keep (.of_below h)) (x.keep (.of_below h)) U V h3 aa);clear O m x;go_enter func94,ntmps94
 go_wp2_with fail
 refine(R k F).mono ?_;rintro e w1 ⟨rfl,s⟩;dsimp only;have t:=zA2 F s;obtain⟨⟨a0,a1,a2,a3,a4⟩,y,z,J⟩:=HB w1 s;have K:=y.cell;have L:=z.cell;cases n:fits ds c
 ·have B:=hid (show zFl ds c f=false by rw[Q.out,n];rfl);go_wp2;go_ret;exact⟨zI B.symm,t⟩
 have I:=zSj n;go_wp2_with fail
 refine(P w1 t).mono ?_;rintro e M ⟨rfl,G⟩;dsimp only;clear a0 a1 a2 a3 a4 y z J K L;have i:=zA2 t G;have o:=zA2 s G;obtain⟨⟨a0,a1,a2,a3,a4⟩,y,z,J⟩:=HB M o;have K:=y.cell;have L:=z.cell;by_cases d:zBY ds f=0
 ·have H:((zBY ds f)!=(0:Int))=false:=by simp[d]
  have T:=hid (HH I (zHO d).2);have B:=hid (show zFl ds c f=evF ds c f by rw[Q.out,n,d];rfl);have E:=hid (And.intro y z);clear d o y z;have ad:w.heap.size<M.heap.size:=by omega
  have ae:w.heap.size+1<M.heap.size:=by omega
  have af:w.heap.size+1+1<M.heap.size:=by omega
  go_wp2_with fail
  refine(T M.heap.size _ (i.alloc i.size _) (E.1.alloc _) (E.2.alloc _) (One.new _ _ _)).mono ?_;rintro e w3 ⟨rfl,Y⟩;go_wp2;go_ret;exact⟨zI B.symm,zA2 i (zA2 (zG _ _) Y)⟩
 have H:((zBY ds f)!=(0:Int))=true:=by simp[d]
 have B:=hid (show zFl ds c f=false by rw[Q.out,n];simp[d]);clear d;go_wp2;go_ret;exact⟨zI B.symm,i⟩
instance decMem (x:ByteArray) (l:List ByteArray):Decidable (x∈l):=decidable_of_iff (∃y∈l,y=x) (by simp)
def zEM(d:Int):Bool:=decide (0<=d/\d<=100000)
def zHP(x cm n:Int):Bool:=
 if cm=1 then x==n else if cm=2 then x !=n else if cm=3 then decide (x<n)else if cm=4 then decide (x<=n)else if cm=5 then decide (n<x)else decide (n<=x)
theorem zT7{x a n:Int}(c:1<=a)(d:a<=6):zHP x a n=zHt x a n:=by
 unfold zHP zHt;have b:a=1\/a=2\/a=3\/a=4\/a=5\/a=6:=by omega
 rcases b with rfl|rfl|rfl|rfl|rfl|rfl<;>simp
theorem zOg(x a n:Int)(w:World):Calls prog 227 #[.int .i64 x,.int .i64 a,.int .i64 n] w λe w'=>e= .returned (.bool (zHP x a n))/\w'=w:=by
 have b:=hid (show zHP x a n=_ from rfl);go_enter func227,ntmps227
 go_wp2;all_goals(go_ret;refine⟨zI ?_,rfl⟩;unfold zHP;simp_all)
def zG9(b:Bool):Int:=if b then 1 else 2
def kn(b:Bool):Fm:= .mk (zG9 b) ⟨#[]⟩ 0 0 []
def knV(b:Bool):Value:= .agg #[.int .i64 (zG9 b),.string ⟨#[]⟩,.int .i64 0,.int .i64 0,.slice none 0 0]
theorem zNe(Z:zD)(w:World)(b:Bool):FmR Z w (kn b) [.int .i64 (zG9 b),.string ⟨#[]⟩,.int .i64 0,.int .i64 0,.slice none 0 0]:=by
 unfold kn FmR;refine⟨by cases b<;>simp[I64,zG9],by decide,by simp[I64],by simp[I64],none,0,rfl,Nat.le_refl _,by decide,by simp,?_⟩;simp[zAD]
theorem zMP(b:Bool)(w:World):Calls prog 226 #[.bool b] w λe w'=>e= .returned (knV b)/\Bw w w':=by
 unfold knV;go_enter func226,ntmps226
 cases b
 ·go_wp2;refine bodyPost_ret (v:=knV false) (by simp[results,results226,go_sem];rfl) rfl ⟨rfl,?_⟩;exact blw
 go_wp2;refine bodyPost_ret (v:=knV true) (by simp[results,results226,go_sem];rfl) rfl ⟨rfl,?_⟩;exact blw
mutual
theorem FmR.live{Z:zD}{w:World}:∀(f:Fm)(cs:List Value),FmR Z w f cs->FmR (λb=>Z b/\b<w.heap.size) w f cs
 | .mk op nm c n kids,cs,h=>by
  unfold FmR at h⊢;obtain⟨d,g,i,j,A,cap,e,k,m,a,o⟩:=h;exact⟨d,g,i,j,A,cap,e,k,m,a,zAD.live kids A o⟩
theorem zAD.live{Z:zD}{w:World}:∀(l:List Fm)(A:Option Addr),zAD Z w l A->zAD (λb=>Z b/\b<w.heap.size) w l A
 |[],_,_=>by unfold zAD;trivial
 |k::ks,A,h=>by
  unfold zAD at h⊢;obtain⟨b,c,cs,e,j,g,f,i⟩:=h
  have a:b<w.heap.size:=by
   obtain⟨m,d,rfl⟩:=FmR.form f;have:=g 0 _ rfl;exact lt_of_cell this
  exact⟨b,c,cs,e,⟨j,a⟩,g,FmR.live k cs f,zAD.live ks _ i⟩
end
theorem zDU{v0 v1 v2 v3 v4:Value}(h:Blk w B t #[v0,v1,v2,v3,v4]):
  (w.cell? ⟨B,0,none⟩=some v0/\w.cell? ⟨B,1,none⟩=some v1/\w.cell? ⟨B,2,none⟩=some v2/\w.cell? ⟨B,3,none⟩=some v3/\w.cell? ⟨B,4,none⟩=some v4)/\(∀i,w.frozen? ⟨B,i,none⟩=false):=
 ⟨⟨h.cell 0,h.cell 1,h.cell 2,h.cell 3,h.cell 4⟩,h.frozen⟩
theorem Tryz.szF:(prog.info? 52).map (·.size)=some 5:=by kernel_rfl
theorem zAm{B g:Nat}{w c d:World}(h:Below B w c)(a:zA (λb=>b≠g) c d)(i:B<=g)(f:B<=c.heap.size):Below B w d:=h.trans ⟨a.os,a.tape,a.output,a.size,λk e=>a.block k (by omega) (by omega)⟩
theorem Tryz.eFm:zC2 prog 52 5 64:=zDH (z:= .agg #[.int .i64 0,.string ⟨#[]⟩,.int .i64 0,.int .i64 0,.slice none 0 0]) (by kernel_rfl) rfl (by decide)
def FmL(Z:zD)(w:World):List Fm->List (List Value)->Prop
 |[],[]=>True
 |f::fs,c::cs=>FmR Z w f c/\FmL Z w fs cs
 | _,_=>False
theorem FmL.keep{Z:zD}{w w':World}(a:zA Z w w'):∀{fs:List Fm}{csl:List (List Value)},FmL Z w fs csl->FmL Z w' fs csl
 |[],[],_=>trivial
 | _::_,_::_,h=>⟨FmR.keep a _ _ h.1,FmL.keep a h.2⟩
 |[],_::_,h=>h.elim
 | _::_,[],h=>h.elim
theorem FmL.mono{Z Z':zD}{w:World}(a:∀b,Z b->Z' b):∀{fs:List Fm}{csl:List (List Value)},FmL Z w fs csl->FmL Z' w fs csl
 |[],[],_=>trivial
 | _::_,_::_,h=>⟨FmR.mono a _ _ h.1,FmL.mono a h.2⟩
 |[],_::_,h=>h.elim
 | _::_,[],h=>h.elim
theorem FmL.snoc{Z:zD}{w:World}{f:Fm}{c:List Value}(a:FmR Z w f c):∀{fs:List Fm}{csl:List (List Value)},FmL Z w fs csl->FmL Z w (fs++[f]) (csl++[c])
 |[],[],_=>⟨a,trivial⟩
 | _::_,_::_,h=>⟨h.1,FmL.snoc a h.2⟩
 |[],_::_,h=>h.elim
 | _::_,[],h=>h.elim
theorem FmL.rows{Z:zD}{w:World}{b:Nat}(e:Z b):∀{fs:List Fm}{csl:List (List Value)}{a:Nat},FmL Z w fs csl->(∀j u,csl.flatten[j]? =some u->w.cell? ⟨b,a+j,none⟩=some u)->zAD Z w fs (some ⟨b,a,none⟩)
 |[],[],_,_,_=>by unfold zAD;trivial
 |f::fs,c::cs,a,h,hc=>by
  unfold zAD;have g:c.length=5:=by obtain⟨A,cap,rfl⟩:=FmR.form h.1;rfl
  refine⟨b,a,c,rfl,e,λj u d=> ?_,h.1,FmL.rows e h.2 λj u d=> ?_⟩
  ·refine hc j u ?_;rw[List.flatten_cons,List.getElem?_append_left (by have:=List.getElem?_eq_some_iff.1 d;obtain⟨h,_⟩:=this;exact h)];exact d
  have:=hc (5+j) u (by rw[List.flatten_cons,List.getElem?_append_right (by omega)];rw[show 5+j-c.length=j by omega];exact d);rwa[show a+5+j=a+(5+j) by omega]
 |[],_::_,_,h,_=>h.elim
 | _::_,[],_,h,_=>h.elim
theorem FmL.size{Z:zD}{w:World}:∀{fs:List Fm}{csl:List (List Value)},FmL Z w fs csl->csl.flatten.length=fs.length*5
 |[],[],_=>rfl
 |f::fs,c::cs,h=>by
  have a:c.length=5:=by obtain⟨A,cap,rfl⟩:=FmR.form h.1;rfl
  rw[List.flatten_cons,List.length_append,FmL.size h.2,a,List.length_cons];omega
 |[],_::_,h=>h.elim
 | _::_,[],h=>h.elim
def zBj(Z:zD)(base:Nat)(w:World)(v:Value)(fs:List Fm):Prop:=
 ∃csl,w.ownsRow base 52 5 v fs.length csl.flatten/\FmL (λb=>Z b/\b<w.heap.size/\v.ownBlock≠some b) w fs csl
theorem zBj.nil(Z:zD)(base:Nat)(w:World):zBj Z base w (.slice none 0 0) []:=⟨[],zBi _ _ _ _,trivial⟩
theorem zBj.below(h:zBj Z base w v fs)(c:Bw w w'):zBj Z base w' v fs:=by
 obtain⟨a,d,e⟩:=h;exact⟨a,own_below d c,FmL.mono (λb h=>⟨h.1,Nat.lt_of_lt_of_le h.2.1 c.size,h.2.2⟩) (FmL.keep (.of_below c) e)⟩
theorem zBj.grow{v f:Value}{csl:List (List Value)}(h:FmL (λb=>Z b/\b<w.heap.size/\v.ownBlock≠some b) w fs csl)
  (i:FmR (λb=>Z b/\b<w.heap.size/\v.ownBlock≠some b) w k cs)(j:w'.ownsRow base 52 5 f (fs.length+1) (csl.flatten++cs))(c:w.grownBy w' v.ownBlock)(m:f.ownBlock=v.ownBlock\/f.ownBlock=some w.heap.size):
  zBj Z base w' f (fs++[k]):=by
 have d:zA (λb=>Z b/\b<w.heap.size/\v.ownBlock≠some b) w w':=⟨c.os,c.tape,c.output,c.size,λb a n=>c.block b a λe=>n.2.2 e.symm⟩;refine⟨csl++[cs],by simpa using j,FmL.mono (λb a=>⟨a.1,Nat.lt_of_lt_of_le a.2.1 c.size,?_⟩) (FmL.snoc (FmR.keep d _ _ i) (FmL.keep d h))⟩;rcases m with e|e
 ·rw[e];exact a.2.2
 rw[e];intro g;injection g with g;have:=a.2.1;omega
theorem zBj.done(h:zBj Z base w v fs):
  ∃A cap,v= .slice A fs.length cap/\fs.length<=cap/\cap<=maxLen/\zAD (λb=>Z b\/base<=b) w fs A:=by
 obtain⟨a,g,d⟩:=h;obtain⟨A,cap,rfl,i,j,k⟩:=Row.of_own g (by decide);refine⟨A,cap,rfl,i,j,?_⟩
 cases fs with
 |nil=>unfold zAD;trivial
 |cons f fs=>
 have c:a.flatten≠[]:=by
  have:=FmL.size d;intro e;rw[e]at this;simp at this
 obtain⟨b,o,rfl,n,m⟩:=k c;exact FmL.rows (Or.inr n) (FmL.mono (λb h=>Or.inl h.1) d) m
def zEe(k:Fm):Fm:=if k.op=1\/k.op=2 then kn (k.op==2)else .mk 4 ⟨#[]⟩ 0 0 [k]
def zDO(op:Int):Int:=if op=6 then 2 else 1
def zEN(op:Int):Int:=if op=6 then 1 else 2
def zB8(op:Int)(ks:List Fm):List Fm:=ks.filter λk=>k.op !=zDO op
def zC8(op:Int)(ks:List Fm):Fm:=
 match ks.find? (λk=>k.op==zEN op)with
 |some k=>k
 |none=>match zB8 op ks with
  |[]=> .mk (zDO op) ⟨#[]⟩ 0 0 []
  |[k]=>k
  |r=> .mk op ⟨#[]⟩ 0 0 r
mutual
def zZ(nm:ByteArray)(x:Int):Fm->Fm
 | .mk op name cm nu kids=>
 if op=3 then(if name=nm then kn (zHP x cm nu)else .mk op name cm nu kids)
 else if op=4 then(match zAT nm x kids with|k::_=>zEe k|[]=> .mk op name cm nu kids)
 else if op=5\/op=6 then zC8 op (zAT nm x kids)else .mk op name cm nu kids
def zAT(nm:ByteArray)(x:Int):List Fm->List Fm
 |[]=>[]
 |k::ks=>zZ nm x k::zAT nm x ks
end
theorem zFA(nm:ByteArray)(x:Int):∀l,zAT nm x l=l.map (zZ nm x)
 |[]=>by simp[zAT]
 |k::ks=>by simp[zAT,zFA nm x ks]
theorem zIq(nm:ByteArray)(x:Int)(f:Fm):zZ nm x f= 
  if f.op=3 then(if f.name=nm then kn (zHP x f.cmp f.num)else f)
  else if f.op=4 then(match zAT nm x f.kids with|k::_=>zEe k|[]=>f)
  else if f.op=5\/f.op=6 then zC8 f.op (zAT nm x f.kids)else f:=by
 cases f;rw[zZ];rfl
theorem zKk{op:Int}{ks:List Fm}{k:Nat}(b:k<ks.length)(h:∀j(a:j<ks.length),j<k->ks[j].op ≠zEN op)(c:ks[k].op =zEN op):zC8 op ks=ks[k]:=by
 have:ks.find? (λk=>k.op==zEN op)=some ks[k]:=by
  rw[List.find?_eq_some_iff_getElem];exact⟨by simp[c],k,b,rfl,λj a=>by simpa using h j (by omega) a⟩
 unfold zC8;rw[this]
theorem zMQ{op:Int}{ks:List Fm}(h:∀j(a:j<ks.length),ks[j].op ≠zEN op):zC8 op ks=match zB8 op ks with|[]=> .mk (zDO op) ⟨#[]⟩ 0 0 []|[k]=>k|r=> .mk op ⟨#[]⟩ 0 0 r:=by
 have:ks.find? (λk=>k.op==zEN op)=none:=by
  rw[List.find?_eq_none];intro x b;obtain⟨j,a,rfl⟩:=List.getElem_of_mem b;simpa using h j a
 unfold zC8;rw[this]
theorem zKl{op:Int}{ks:List Fm}{k:Nat}(a:k<ks.length)(h:ks[k].op =zDO op):zB8 op (ks.take (k+1))=zB8 op (ks.take k):=by
 unfold zB8;rw[zXN a,List.filter_append];simp[h]
theorem zKm{op:Int}{ks:List Fm}{k:Nat}(a:k<ks.length)(h:ks[k].op ≠zDO op):zB8 op (ks.take (k+1))=zB8 op (ks.take k)++[ks[k]]:=by
 unfold zB8;rw[zXN a,List.filter_append];simp[h]
theorem zGx{op:Int}{ks:List Fm}(k:Nat):(zB8 op (ks.take k)).length <=ks.length:=by
 unfold zB8;exact Nat.le_trans (List.length_filter_le _ _) (by simp;omega)
def zEB(Z:zD)(g:Fm)(w:World)(e:Ending)(w':World):Prop:=
 ∃cs,e= .returned (.agg cs.toArray)/\FmR (λb=>Z b\/w.heap.size<=b) w' g cs/\Bw w w'
def zPS(nm:ByteArray)(x:Int)(ds:List zE)(m:Nat):Prop:=∀(f:Fm),zH f<=m->zH f<=1000000->∀(Z:zD)(cs:List Value)(w:World),FmR Z w f cs->zA0 (zAB ds) f=0->
  Calls prog 178 #[.agg cs.toArray,.string nm,.int .i64 x] w (zEB Z (zZ nm x f) w)
mutual
def zAX(nm:ByteArray):Fm->List Int
 | .mk op name _ nu kids=>(if op=3/\name=nm then[nu]else[])++zAU nm kids
def zAU(nm:ByteArray):List Fm->List Int
 |[]=>[]
 |k::r=>zAX nm k++zAU nm r
end
mutual
def zAf:Fm->List ByteArray
 | .mk op name _ _ kids=>(if op=3 then[name]else[])++zAV kids
def zAV:List Fm->List ByteArray
 |[]=>[]
 |k::r=>zAf k++zAV r
end
theorem zOh{l:List Fm}:n∈zAV l↔∃k∈l,n∈zAf k:=by
 induction l with
 |nil=>simp[zAV]
 |cons a r ih=>simp[zAV,ih]
mutual
def noC:Fm->Bool
 | .mk op _ _ _ kids=>if op=3 then true else(decide (op=4)||decide (op=5)||decide (op=6))&&decide (kids≠[])&&zIr kids
def zIr:List Fm->Bool
 |[]=>true
 |k::r=>noC k&&zIr r
end
theorem zNf:∀(l:List Fm),zIr l=true↔∀k∈l,noC k=true
 |[]=>by simp[zIr]
 |k::r=>by simp[zIr,zNf r]
def isC(f:Fm):Prop:=f.op=1\/f.op=2
def zIs(f:Fm):Prop:=isC f\/noC f=true
theorem zR6{v x g n:Int}(h:v<n↔x<n)(i:v<n+1↔x<n+1):zHt v g n=zHt x g n:=by
 have a:(v==n)=(x==n):=by rw[Bool.eq_iff_iff,beq_iff_eq,beq_iff_eq];omega
 have b:(v !=n)=(x !=n):=by unfold bne;rw[a]
 have c:decide (v<n)=decide (x<n):=by rw[decide_eq_decide];omega
 have d:decide (v<=n)=decide (x<=n):=by rw[decide_eq_decide];omega
 have e:decide (n<v)=decide (n<x):=by rw[decide_eq_decide];omega
 have f:decide (n<=v)=decide (n<=x):=by rw[decide_eq_decide];omega
 unfold zHt;rw[a,b,c,d,e,f]
section evs
variable {ds:List zE} {c:List Int}
theorem zR7(b:Bool):evF ds c (kn b)=b:=by
 unfold kn zG9;rw[evF];cases b<;>simp
theorem zF1(h:f.op=1):evF ds c f=true:=by rw[zNd,h];simp
theorem zEm(h:f.op=2):evF ds c f=false:=by rw[zNd,h];simp
theorem zT8(k:Fm):evF ds c (zEe k)= !evF ds c k:=by
 unfold zEe;split
 ·rename_i h;rw[zR7];rcases h with h|h
  ·rw[zF1 h,h];simp
  rw[zEm h,h];simp
 rw[evF];simp[zG8]
theorem zLf(ks:List Fm):(ks.filter λk=>k.op !=1).all (evF ds c)=ks.all (evF ds c):=by
 induction ks with
 |nil=>rfl
 |cons k r ih=>
 rw[List.filter_cons];by_cases h:k.op=1
 ·rw[if_neg (by simp[h]),ih,List.all_cons,zF1 h];rfl
 rw[if_pos (by simp[h]),List.all_cons,List.all_cons,ih]
theorem zLg(ks:List Fm):(ks.filter λk=>k.op !=2).any (evF ds c)=ks.any (evF ds c):=by
 induction ks with
 |nil=>rfl
 |cons k r ih=>
 rw[List.filter_cons];by_cases h:k.op=2
 ·rw[if_neg (by simp[h]),ih,List.any_cons,zEm h];rfl
 rw[if_pos (by simp[h]),List.any_cons,List.any_cons,ih]
theorem zR8(ks:List Fm):evF ds c (zC8 5 ks)=ks.all (evF ds c):=by
 unfold zC8;have d:zEN 5=2:=by decide
 have b:zDO 5=1:=by decide
 rw[d];split
 ·rename_i k hk;have e:=List.mem_of_find?_eq_some hk;have a:=List.find?_some hk;simp only[beq_iff_eq]at a;rw[zEm a];symm;rw[List.all_eq_false];exact⟨k,e,by rw[zEm a];simp⟩
 rw[<-zLf];unfold zB8;rw[b];split
 ·rename_i h;rw[h];rw[zF1 rfl];rfl
 ·rename_i k h;rw[h];simp
 rename_i r _ _;rw[evF];simp[zHv]
theorem zR9(ks:List Fm):evF ds c (zC8 6 ks)=ks.any (evF ds c):=by
 unfold zC8;have d:zEN 6=1:=by decide
 have b:zDO 6=2:=by decide
 rw[d];split
 ·rename_i k hk;have e:=List.mem_of_find?_eq_some hk;have a:=List.find?_some hk;simp only[beq_iff_eq]at a;rw[zF1 a];symm;rw[List.any_eq_true];exact⟨k,e,zF1 a⟩
 rw[<-zLg];unfold zB8;rw[b];split
 ·rename_i h;rw[h];rw[zEm rfl];rfl
 ·rename_i k h;rw[h];simp
 rename_i r _ _;rw[evF];simp[zHu]
end evs
theorem zC5(h:zCC f=true):
  (f.op=3/\f.kids=[]/\1<=f.cmp/\f.cmp<=6/\zB6 f.name.data.toList=true)\/
  (f.name=⟨#[]⟩/\((f.op=1\/f.op=2)/\f.kids=[]\/f.op=4/\f.kids.length=1\/(f.op=5\/f.op=6)/\2<=f.kids.length)):=by
 by_cases a:f.op=3
 ·rw[zG7 a]at h;simp only[Bool.and_eq_true,decide_eq_true_eq,zIm]at h;exact Or.inl ⟨a,List.eq_nil_of_length_eq_zero h.1.1.1.1,h.1.1.1.2,h.1.1.2,h.1.2⟩
 rw[zEz a]at h;split at h
 ·cases h
 rename_i hb;simp only[not_or,ne_eq,Decidable.not_not]at hb;refine Or.inr ⟨hb.1,?_⟩;split at h
 ·rename_i h12;exact Or.inl ⟨h12,List.eq_nil_of_length_eq_zero (by simpa using h)⟩
 split at h
 ·rename_i h4;exact Or.inr (Or.inl ⟨h4,by simpa using h⟩)
 simp only[Bool.and_eq_true,Bool.or_eq_true,decide_eq_true_eq]at h;exact Or.inr (Or.inr h)
def okF(ds:List zE)(f:Fm):Prop:=zA0 (zAB ds) f=0
def zEC(ds:List zE)(l:List Fm):Prop:=zAZ (zAB ds) l=0
theorem zFm{a b:Int}{kids:List Fm}(h:okF ds (.mk op nm a b kids)):zCC (.mk op nm a b kids)=true/\zEC ds kids/\(op=3->0<=zBD ds nm):=by
 obtain⟨c,g⟩:=zDD h;obtain⟨d,e⟩:=zEL c;exact⟨d,g,λf=>(e f).2.2⟩
theorem zCk{r:List Fm}:zEC ds (k::r)↔okF ds k/\zEC ds r:=by
 unfold zEC okF;rw[zAZ];split
 ·rename_i h;simp[h]
 rename_i h;simp[h]
theorem zNg{ds:List zE}:∀{l:List Fm},zEC ds l↔∀k∈l,okF ds k
 |[]=>by simp[zEC,zAZ]
 |k::r=>by rw[zCk,zNg];simp
section given
variable {ds:List zE} {nm:ByteArray} {v:Int}
mutual
theorem zIt{c:List Int}:∀f,okF ds f->(∀n∈zAX nm f,(v<n↔c.getD (zBD ds nm).toNat 0<n)/\(v<n+1↔c.getD (zBD ds nm).toNat 0<n+1))->evF ds c (zZ nm v f)=evF ds c f
 | .mk op name cm nu kids,hok,ht=>by
  obtain⟨j,i,_⟩:=zFm hok;have a:=zKn (c:=c) kids i (λn e=>ht n (by rw[zAX];exact List.mem_append_right _ e));rw[zZ];by_cases d:op=3
  ·rw[if_pos d];by_cases e:name=nm
   ·rw[if_pos e,zR7];rcases zC5 j with⟨_,_,h1,h6,_⟩|⟨_,h⟩
    ·simp only[Fm.cmp]at h1 h6;rw[evF,if_pos d,e,zT7 h1 h6];have:=ht nu (by rw[zAX,if_pos ⟨d,e⟩];simp);exact zR6 this.1 this.2
    simp only[Fm.op]at h;omega
   rw[if_neg e]
  rw[if_neg d];by_cases g:op=4
  ·rw[if_pos g]
   have m:kids.length=1:=by
    rcases zC5 j with⟨h,_⟩|⟨_,h⟩
    ·exact absurd h d
    simp only[Fm.op,Fm.kids]at h;omega
   match kids,m,a with
   |[k],_,a=>
   simp only[zAT,List.map_cons,List.map_nil,List.cons.injEq,and_true]at a⊢;rw[zT8,a,evF,if_neg d,if_pos g];simp[zG8]
  rw[if_neg g];by_cases b:op=5\/op=6
  ·rw[if_pos b];rcases b with rfl|rfl
   ·rw[zR8,evF];simp only[zHv];have:=congrArg (λl:List Bool=>l.all id) a;simpa[List.all_map]using this
   rw[zR9,evF];simp only[zHu];have:=congrArg (λl:List Bool=>l.any id) a;simpa[List.any_map]using this
  rw[if_neg b]
theorem zKn{c:List Int}:∀l,zEC ds l->(∀n∈zAU nm l,(v<n↔c.getD (zBD ds nm).toNat 0<n)/\(v<n+1↔c.getD (zBD ds nm).toNat 0<n+1))->(zAT nm v l).map (evF ds c)=l.map (evF ds c)
 |[],_,_=>by simp[zAT]
 |k::r,hok,ht=>by
  rw[zCk]at hok;rw[zAT,List.map_cons,List.map_cons,zIt k hok.1 (λn a=>ht n (by rw[zAU];exact List.mem_append_left _ a)),zKn r hok.2 (λn a=>ht n (by rw[zAU];exact List.mem_append_right _ a))]
end
theorem zNh(h:zAB ds f=0)(a:zEC ds f.kids):okF ds f:=by
 unfold okF;rw[zFd,if_pos h];exact a
theorem zLh(a:f.op≠3)(h:zCC f=true):zAB ds f=0:=by
 unfold zAB;rw[if_neg (by simp[h]),if_pos a]
theorem zQK(b:Bool):okF ds (kn b):=by
 refine zNh (zLh (by cases b<;>simp[kn,zG9,Fm.op]) ?_) (by simp[kn,Fm.kids,zEC,zAZ]);cases b<;>rfl
theorem zUE(h:okF ds k):okF ds (zEe k):=by
 unfold zEe;split
 ·exact zQK _
 refine zNh (zLh (by simp[Fm.op]) rfl) ?_;show zEC ds [k];rw[zCk];exact⟨h,rfl⟩
theorem zGa(h:k∈zB8 op ks):k∈ks:=by unfold zB8 at h;exact(List.mem_filter.1 h).1
theorem zT9(e:op=5\/op=6)(h:∀k∈ks,okF ds k):okF ds (zC8 op ks):=by
 unfold zC8;split
 ·rename_i k c;exact h k (List.mem_of_find?_eq_some c)
 split
 ·have:zDO op=zG9 (decide (op≠6)):=by unfold zDO zG9;rcases e with rfl|rfl<;>simp
  rw[this];exact zQK _
 ·rename_i k c;exact h k (zGa (op:=op) (by rw[c];simp))
 rename_i h1 h2
 have f:2<=(zB8 op ks).length :=by
  cases d:zB8 op ks with
  |nil=>exact absurd d h1
  |cons a r=>
  cases r with
  |nil=>exact absurd d (h2 a)
  |cons b r=>simp
 refine zNh (zLh (by simp only[Fm.op];omega) ?_) (zNg.2 λk c=>h k (zGa c));unfold zCC;rcases e with rfl|rfl<;>simp[Fm.name,Fm.cmp,Fm.num,Fm.op,Fm.kids,f]
mutual
theorem zED:∀f,okF ds f->okF ds (zZ nm v f)
 | .mk op name cm nu kids,hok=>by
  obtain⟨c,b,_⟩:=zFm hok;have a:=zMR kids b;rw[zZ];split
  ·split
   ·exact zQK _
   exact hok
  split
  ·split
   ·rename_i k r hk;exact zUE (a k (by rw[hk];simp))
   exact hok
  split
  ·rename_i h56;exact zT9 h56 a
  exact hok
theorem zMR:∀l,zEC ds l->∀k∈zAT nm v l,okF ds k
 |[],_,_,h=>absurd h (by simp[zAT])
 |a::r,hok,k,h=>by
  rw[zCk]at hok;rw[zAT]at h;rcases List.mem_cons.1 h with rfl|h
  ·exact zED a hok.1
  exact zMR r hok.2 k h
end
theorem zRa(b:Bool):zIs (kn b):=Or.inl (by cases b<;>simp[isC,kn,zG9,Fm.op])
theorem zTa(h:zIs k):zIs (zEe k):=by
 unfold zEe;split
 ·exact zRa _
 rename_i hc;rcases h with h|h
 ·exact absurd h hc
 right;rw[noC];simp[zIr,h]
theorem zSk(e:op=5\/op=6)(h:∀k∈ks,zIs k):zIs (zC8 op ks):=by
 unfold zC8;split
 ·rename_i k a;exact h k (List.mem_of_find?_eq_some a)
 rename_i hz;have g:=List.find?_eq_none.1 hz
 have d:∀k∈zB8 op ks,noC k=true:=λk a=>by
  have i:=zGa a;rcases h k i with f|f
  ·exfalso;have b:=g k i;unfold zB8 at a;have c:=(List.mem_filter.1 a).2;simp only[beq_iff_eq,bne_iff_ne,ne_eq]at b c;unfold zEN at b;unfold zDO at c;unfold isC at f;rcases e with rfl|rfl
   ·simp at b c;omega
   simp at b c;omega
  exact f
 split
 ·exact Or.inl (by unfold isC zDO Fm.op;rcases e with rfl|rfl<;>simp)
 ·rename_i k a;exact Or.inr (d k (by rw[a];simp))
 rename_i b c;right;rw[noC,if_neg (by omega)];simp only[Bool.and_eq_true,decide_eq_true_eq,Bool.or_eq_true,zNf];exact⟨⟨by omega,b⟩,d⟩
mutual
theorem zGy:∀f,okF ds f->zIs (zZ nm v f)
 | .mk op name cm nu kids,hok=>by
  obtain⟨e,d,_⟩:=zFm hok;have c:=zKo kids d;rw[zZ];split
  ·rename_i h3;split
   ·exact zRa _
   right;rw[noC,if_pos h3]
  rename_i h3;split
  ·rename_i h4;rcases zC5 e with⟨h,_⟩|⟨_,h⟩
   ·exact absurd h h3
   simp only[Fm.op,Fm.kids]at h
   match kids,c with
   |[k],c=>rw[zAT];exact zTa (c _ (by simp[zAT]))
   |[],_=>simp at h;omega
   |a::b::r,_=>simp at h;omega
  rename_i h4;split
  ·rename_i h56;exact zSk h56 c
  rename_i h56;rcases zC5 e with⟨h,_⟩|⟨_,h⟩
  ·exact absurd h h3
  simp only[Fm.op,Fm.kids]at h;exact Or.inl (by unfold isC Fm.op;simp only;omega)
theorem zKo:∀l,zEC ds l->∀k∈zAT nm v l,zIs k
 |[],_,_,h=>absurd h (by simp[zAT])
 |a::r,hok,k,h=>by
  rw[zCk]at hok;rw[zAT]at h;rcases List.mem_cons.1 h with rfl|h
  ·exact zGy a hok.1
  exact zKo r hok.2 k h
end
theorem zRb(h:n∈zAf (zEe k)):n∈zAf k:=by
 unfold zEe at h;split at h
 ·unfold kn zG9 at h;rw[zAf]at h;split at h<;>simp[zAV]at h
 rw[zAf]at h;simpa[zAV]using h
theorem zQL(c:op=5\/op=6)(h:n∈zAf (zC8 op ks)):∃k∈ks,n∈zAf k:=by
 unfold zC8 at h;split at h
 ·rename_i k a;exact⟨k,List.mem_of_find?_eq_some a,h⟩
 split at h
 ·rw[zAf,if_neg (by unfold zDO;split<;>omega)]at h;simp[zAV]at h
 ·rename_i k a;exact⟨k,zGa (op:=op) (by rw[a];simp),h⟩
 rw[zAf,if_neg (by omega)]at h;simp only[List.nil_append]at h;obtain⟨k,a,b⟩:=zOh.1 h;exact⟨k,zGa a,b⟩
mutual
theorem zJj:∀f,okF ds f->∀n∈zAf (zZ nm v f),n∈zAf f/\n≠nm
 | .mk op name cm nu kids,hok,n,h=>by
  obtain⟨i,e,_⟩:=zFm hok;have d:=zIu kids e;rw[zZ]at h;rw[zAf];split at h
  ·rename_i h3;split at h
   ·unfold kn zG9 at h;rw[zAf]at h;split at h<;>simp[zAV]at h
   rename_i g;rcases zC5 i with⟨_,c,_⟩|⟨_,b⟩
   ·simp only[Fm.kids]at c;rw[zAf,if_pos h3,c]at h;simp[zAV]at h;subst h;exact⟨by simp[h3],g⟩
   simp only[Fm.op]at b;omega
  rename_i h3;rw[if_neg h3];simp only[List.nil_append];split at h
  ·split at h
   ·rename_i k r c;exact d n k (by rw[c];simp) (zRb h)
   rename_i c;rw[zAf,if_neg h3]at h
   have:kids=[]:=by
    cases kids with
    |nil=>rfl
    |cons a r=>simp[zAT]at c
   rw[this]at h;simp[zAV]at h
  split at h
  ·rename_i h56;obtain⟨k,c,g⟩:=zQL h56 h;exact d n k c g
  rename_i h4 h56;rcases zC5 i with⟨b,_⟩|⟨_,b⟩
  ·exact absurd b h3
  simp only[Fm.op,Fm.kids]at b
  have c:kids=[]:=by
   rcases b with b|b|b
   ·exact b.2
   ·exact absurd b.1 h4
   exact absurd b.1 h56
  rw[zAf,if_neg h3,c]at h;simp[zAV]at h
theorem zIu:∀l,zEC ds l->∀n,∀k∈zAT nm v l,n∈zAf k->n∈zAV l/\n≠nm
 |[],_,_,_,h,_=>absurd h (by simp[zAT])
 |a::r,hok,n,k,h,hn=>by
  rw[zCk]at hok;rw[zAT]at h;rw[zAV];rcases List.mem_cons.1 h with rfl|h
  ·have:=zJj a hok.1 n hn;exact⟨List.mem_append_left _ this.1,this.2⟩
  have:=zIu r hok.2 n k h hn;exact⟨List.mem_append_right _ this.1,this.2⟩
end
theorem zPT(b:Bool):zH (kn b)=1:=by unfold kn;rw[zH];rfl
theorem zSl(k:Fm):zH (zEe k)<=1+zH k:=by
 unfold zEe;split
 ·rw[zPT];omega
 rw[zH];simp[zV]
theorem zMS{l:List Fm}(h:k∈l):zH k<=zV l:=by
 induction l with
 |nil=>simp at h
 |cons a r ih=>
 rw[zV];rcases List.mem_cons.1 h with rfl|h
 ·omega
 have:=ih h;omega
theorem zQM(op:Int)(l:List Fm):zV (zB8 op l)<=zV l:=by
 unfold zB8
 induction l with
 |nil=>simp
 |cons a r ih=>
 rw[List.filter_cons];split
 ·rw[zV,zV];omega
 rw[zV];omega
theorem zRc(op:Int)(ks:List Fm):zH (zC8 op ks)<=1+zV ks:=by
 unfold zC8;split
 ·rename_i k a;have:=zMS (List.mem_of_find?_eq_some a);omega
 have a:=zQM op ks;split
 ·rw[zH];simp[zV]
 ·rename_i k h;rw[h]at a;simp[zV]at a;omega
 rw[zH];omega
mutual
theorem zHx:∀f,zH (zZ nm v f)<=zH f
 | .mk op name cm nu kids=>by
  have a:=zJk kids;have b:=zCH (.mk op name cm nu kids);rw[zZ];split
  ·split
   ·rw[zPT];omega
   exact Nat.le_refl _
  split
  ·split
   ·rename_i k r hk;rw[hk,zV]at a;have:=zSl k;rw[zH];omega
   exact Nat.le_refl _
  split
  ·have:=zRc op (zAT nm v kids);rw[zH];omega
  exact Nat.le_refl _
theorem zJk:∀l,zV (zAT nm v l)<=zV l
 |[]=>by simp[zAT]
 |a::r=>by
  rw[zAT,zV,zV];have:=zHx a;have:=zJk r;omega
end
end given
mutual
theorem zMT:∀f,noC f=true->zAf f≠[]
 | .mk op name cm nu kids,h=>by
  rw[noC]at h;rw[zAf];split at h
  ·rename_i h3;simp[h3]
  simp only[Bool.and_eq_true,decide_eq_true_eq]at h;have:=zQN kids h.2 h.1.2;simp[this]
theorem zQN:∀l,zIr l=true->l≠[]->zAV l≠[]
 |[],_,h=>absurd rfl h
 |k::r,h,_=>by
  rw[zIr,Bool.and_eq_true]at h;rw[zAV];have:=zMT k h.1;simp[this]
end
mutual
theorem zF2{ds:List zE}:∀f,okF ds f->zDI f=true
 | .mk op nm cm nu kids,h=>by
  obtain⟨d,b,_⟩:=zFm h;have c:=zMU kids b;rw[zDI];rcases zC5 d with⟨a,_,_,_,hn⟩|⟨hn,h'⟩
  ·simp only[Fm.op,Fm.name]at a hn;simp[a,hn,c]
  simp only[Fm.op,Fm.name,Fm.kids]at h' hn;have a:op≠3:=by omega
  simp[a,hn,c];omega
theorem zMU{ds:List zE}:∀l,zEC ds l->zDP l=true
 |[],_=>rfl
 |k::r,h=>by
  rw[zCk]at h;rw[zDP,zF2 k h.1,zMU r h.2];rfl
end
mutual
theorem zKL{ds:List zE}:∀f,okF ds f->∀n∈zAf f,0<=zBD ds n
 | .mk op nm cm nu kids,h,n,a=>by
  obtain⟨d,b,c⟩:=zFm h;rw[zAf]at a;rcases List.mem_append.1 a with a|a
  ·split at a
   ·rename_i e;simp at a;subst a;exact c e
   simp at a
  exact zMV kids b n a
theorem zMV{ds:List zE}:∀l,zEC ds l->∀n∈zAV l,0<=zBD ds n
 |[],_,_,a=>absurd a (by simp[zAV])
 |k::r,h,n,a=>by
  rw[zCk]at h;rw[zAV]at a;rcases List.mem_append.1 a with a|a
  ·exact zKL k h.1 n a
  exact zMV r h.2 n a
end
structure GSt where
 all:List zB
 done:List (List UInt8 × Int)
 full:Bool
def zR(f:Fm)(x:zE):List Int:=x.lo::zEJ (((zAX x.name f).flatMap λn=>[n,n+1]).filter λn=>decide (x.lo<n)&&decide (n<=x.hi))
def zBw(b full:Bool)(st:GSt):Int × GSt:=((zy st.all ⟨b,0,[],[]⟩).1,⟨(zy st.all ⟨b,0,[],[]⟩).2,st.done,full⟩)
def zz:List zE->Nat->Fm->GSt->Int × GSt
 |[],_,f,st=>if f.op=1\/f.op=2 then zBw (decide (f.op=1)) st.full st else zBw false (st.full||decide (4000<st.all.length)) st
 |x::rest,i,f,st=>
 if f.op=1\/f.op=2 then zBw (decide (f.op=1)) st.full st
 else if(st.full||decide (4000<st.all.length))=true then zBw false true st
 else match kvI st.done (zCc i f)with
  |some k=>(k,st)
  |none=>
  let r:=zW (λv st=>zz rest (i+1) (zZ x.name v f) st) (zR f x) st;let o:=zAb r.2.all i (zR f x) r.1
  (o.1,⟨o.2,zCd r.2.done (zCc i f) o.1,r.2.full⟩)
theorem zIv(b full:Bool)(st:GSt):∃t,(zBw b full st).2.all =st.all++t:=zFX _ _
theorem zGz{f:Int->GSt->Int × GSt}(h:∀v st,∃t,(f v st).2.all =st.all++t):∀(l:List Int)(st:GSt),∃t,(zW f l st).2.all =st.all++t
 |[],st=>⟨[],by simp[zW]⟩
 |v::l,st=>zGt (h v st) (zGz h l _)
theorem zGb:∀(rest:List zE)(i:Nat)(f:Fm)(st:GSt),∃t,(zz rest i f st).2.all =st.all++t
 |[],i,f,st=>by
  unfold zz;split<;>exact zIv _ _ _
 |x::rest,i,f,st=>by
  unfold zz;split
  ·exact zIv _ _ _
  split
  ·exact zIv _ _ _
  split
  ·exact⟨[],by simp⟩
  exact zGt (zGz (λv st=>zGb rest _ _ st) _ st) (zFk _ _ _ _)
theorem zKp{f:Int->GSt->Int × GSt}(h:∀v st,(f v st).2.full =false->st.full=false):∀(l:List Int)(st:GSt),(zW f l st).2.full =false->st.full=false
 |[],_,h=>h
 |v::l,st,hh=>h v st (zKp h l _ hh)
theorem zRd:∀(rest:List zE)(i:Nat)(f:Fm)(st:GSt),(zz rest i f st).2.full =false->st.full=false
 |[],i,f,st,h=>by
  unfold zz at h;split at h
  ·exact h
  unfold zBw at h;simp only[Bool.or_eq_false_iff]at h;exact h.1
 |x::rest,i,f,st,h=>by
  unfold zz at h;split at h
  ·exact h
  split at h
  ·unfold zBw at h;cases h
  rename_i hf;simp only[Bool.or_eq_true,not_or,Bool.not_eq_true]at hf;exact hf.1
theorem zQO:zBD ds nm<ds.length:=by
 unfold zBD;rcases zDe (zFR ds nm) ds.length 0 with⟨k,_,h,_,_,e⟩|⟨_,e⟩<;>omega
theorem zHy(hi:i<ds.length):zFR ds nm i=decide ((ds.getD i zAP).name =nm):=by
 unfold zFR;rw[List.getElem?_eq_getElem hi,List.getD_eq_getElem?_getD,List.getElem?_eq_getElem hi];rfl
theorem zNi(h:zBD ds nm=i):(ds.getD i zAP).name =nm:=by
 unfold zBD at h;rcases zDe (zFR ds nm) ds.length 0 with⟨k,_,hk,hp,_,e⟩|⟨_,e⟩
 ·have:k=i:=by omega
  subst this;rw[zHy (by omega)]at hp;simpa using hp
 omega
theorem zNj(a:zT ds=true)(hi:i<ds.length):zBD ds (ds.getD i zAP).name =i:=by
 unfold zBD;refine zCr (λj _ f=> ?_) (Nat.zero_le _) (by omega) (by rw[zHy hi];simp);rw[zHy (by omega)];simp only[decide_eq_false_iff_not];intro e;unfold zT at a;simp only[Bool.and_eq_true,decide_eq_true_eq]at a;have b:=a.1.2;unfold names at b
 have c:(ds.map (·.name))[j]? =some (ds.getD j zAP).name :=by
  rw[List.getElem?_map,List.getElem?_eq_getElem (by omega),List.getD_eq_getElem?_getD,List.getElem?_eq_getElem (by omega)];rfl
 have d:(ds.map (·.name))[i]? =some (ds.getD i zAP).name :=by
  rw[List.getElem?_map,List.getElem?_eq_getElem hi,List.getD_eq_getElem?_getD,List.getElem?_eq_getElem hi];rfl
 have:=(List.getElem?_inj (by simpa using(show j<ds.length by omega)) b).1 (c.trans (by rw[e,d]));omega
section grow
variable {ds:List zE}
structure zIw (ds:List zE) (all:List zB) (i:Nat) (f:Fm) (r:Int):Prop where
 rng:Rng all r
 says:∀c,Fit ds c->S ds all r c=evF ds c f
 low:(nAt all r).kids ≠[]->(i:Int)<=(nAt all r).fact
theorem zIw.app{all a:List zB}{r:Int}(h:zIw ds all i f r)(e:Good ds all)(b:Good ds a)(g:∃t,a=all++t):zIw ds a i f r:=by
 obtain⟨t,rfl⟩:=g;exact⟨h.rng.app t,λc d=>by rw[zNO e b h.rng];exact h.says c d,by rw[zFU h.rng];exact h.low⟩
structure GInv (ds:List zE) (st:GSt):Prop where
 good:Good ds st.all
 done:∀p∈st.done,∃i f,p.1=zCc i f/\zDI f=true/\zIw ds st.all i f p.2
theorem zKq{st:GSt}(h:GInv ds st)(b full:Bool)(g:∀c,evF ds c f=b):GInv ds (zBw b full st).2/\zIw ds (zBw b full st).2.all i f (zBw b full st).1:=by
 obtain⟨M,a⟩:=zI8 h.good (n:=⟨b,0,[],[]⟩) (Or.inl ⟨rfl,rfl,rfl⟩);refine⟨⟨M.good,λp k=> ?_⟩,M.rng,λc _=> ?_,λj=>absurd (by rw[show(zBw b full st).2.all =(zy st.all ⟨b,0,[],[]⟩).2 from rfl,show(zBw b full st).1=(zy st.all ⟨b,0,[],[]⟩).1 from rfl,a]) j⟩
 ·obtain⟨i,f,e,d,F⟩:=h.done p k;exact⟨i,f,e,d,F.app h.good M.good M.pre⟩
 show S ds (zy st.all ⟨b,0,[],[]⟩).2 (zy st.all ⟨b,0,[],[]⟩).1 c=_;rw[M.good.S_leaf (by rw[a]),a,g c]
theorem zQP{rest:List Int}{lo v:Int}:(lo::rest).getD (nx rest v) 0=zXM lo rest (nx rest v):=by
 unfold zXM;split
 ·rename_i h0;rw[h0];rfl
 rename_i h0;obtain⟨q,a⟩:∃q,nx rest v=q+1:=⟨nx rest v-1,by omega⟩;rw[a];simp
theorem zHz(f:Fm)(x:zE):zAE x.lo x.hi (zEJ (((zAX x.name f).flatMap λn=>[n,n+1]).filter λn=>decide (x.lo<n)&&decide (n<=x.hi))):=
 zFj λv a=>by
  have:=(List.mem_filter.1 a).2;simpa using this
theorem zOi{x:zE}{v y:Int}(k:x.lo<=v)(u:v<=x.hi)(j:y=zXM x.lo (zEJ (((zAX x.name f).flatMap λn=>[n,n+1]).filter λn=>decide (x.lo<n)&&decide (n<=x.hi))) (nx (zEJ (((zAX x.name f).flatMap λn=>[n,n+1]).filter λn=>decide (x.lo<n)&&decide (n<=x.hi))) v)):
  ∀n∈zAX x.name f,(y<n↔v<n)/\(y<n+1↔v<n+1):=by
 have g:=zHz f x;have i:=zE4 g k;have a:=λz t=>zEv (v:=v) (x:=z) g t
 have o:x.lo<=y:=by
  rw[j];exact(zLw g (by omega) (zEr _ _)).1
 rw[<-j]at i a
 have c:∀m,(∃n∈zAX x.name f,m=n\/m=n+1)->(y<m↔v<m):=λm q=>by
  by_cases s:x.lo<m/\m<=x.hi
  ·have b:m∈zEJ (((zAX x.name f).flatMap λn=>[n,n+1]).filter λn=>decide (x.lo<n)&&decide (n<=x.hi)):=by
    rw[zFi,List.mem_filter,List.mem_flatMap];obtain⟨n,d,e⟩:=q;exact⟨⟨n,d,by rcases e with rfl|rfl<;>simp⟩,by simp[s]⟩
   exact⟨λh=>a m b h,λh=>by omega⟩
  omega
 exact λn d=>⟨c n ⟨n,d,Or.inl rfl⟩,c (n+1) ⟨n,d,Or.inr rfl⟩⟩
theorem zIx(hd:zT ds=true):∀(rest:List zE)(i:Nat)(f:Fm)(st:GSt),rest=ds.drop i->i<=ds.length->okF ds f->zIs f->(∀n∈zAf f,(i:Int)<=zBD ds n)->GInv ds st->
  (zz rest i f st).2.full =false->GInv ds (zz rest i f st).2/\zIw ds (zz rest i f st).2.all i f (zz rest i f st).1
 |[],i,f,st,hr,hi,hok,hred,hnm,a,hfull=>by
  unfold zz at hfull⊢;by_cases m:f.op=1\/f.op=2
  ·rw[if_pos m];(refine zKq a _ _ λc=> ?_);rcases m with h|h
   ·rw[zF1 h,h];rfl
   rw[zEm h,h];rfl
  exfalso;rcases hred with h|h
  ·exact m h
  have A:=zMT f h
  cases E:zAf f with
  |nil=>exact A E
  |cons n r=>
  have Q:=hnm n (by rw[E];simp);have h2:=zQO (ds:=ds) (nm:=n)
  have h3:ds.length<=i:=by
   have:=congrArg List.length hr;simp at this;omega
  omega
 |x::rest,i,f,st,hr,hi,hok,hred,hnm,a,hfull=>by
  have z:i<ds.length:=by
   have:=congrArg List.length hr;simp at this;omega
  have P:ds.getD i zAP=x:=by
   have:=congrArg (λl=>l.getD 0 zAP) hr;simp[List.getD_eq_getElem?_getD]at this;rw[List.getD_eq_getElem?_getD];exact this.symm
  have C:rest=ds.drop (i+1):=by
   have:=congrArg List.tail hr;simpa using this
  unfold zz at hfull⊢;by_cases m:f.op=1\/f.op=2
  ·rw[if_pos m];(refine zKq a _ _ λc=> ?_);rcases m with h|h
   ·rw[zF1 h,h];rfl
   rw[zEm h,h];rfl
  rw[if_neg m]at hfull⊢;by_cases d:(st.full||decide (4000<st.all.length))=true
  ·rw[if_pos d]at hfull;cases hfull
  rw[if_neg d]at hfull⊢
  cases K:kvI st.done (zCc i f)with
  |some k=>
   simp only;obtain⟨i',Y,e,B,F⟩:=a.done _ (zH6 K);simp only at e F;obtain⟨rfl,rfl⟩:=zSZ (zF2 f hok) B e;exact⟨a,F⟩
  |none=>
  simp only[K]at hfull⊢
  have J:∀(l:List Int)(st:GSt),GInv ds st->(zW (λv st=>zz rest (i+1) (zZ x.name v f) st) l st).2.full =false->
    GInv ds (zW (λv st=>zz rest (i+1) (zZ x.name v f) st) l st).2/\
    ∀j,j<l.length->zIw ds (zW (λv st=>zz rest (i+1) (zZ x.name v f) st) l st).2.all (i+1) (zZ x.name (l.getD j 0) f) ((zW (λv st=>zz rest (i+1) (zZ x.name v f) st) l st).1.getD j 0):=by
   intro l
   induction l with
   |nil=>intro st a _;exact⟨a,λj s=>absurd s (by simp)⟩
   |cons v l ih=>
   intro st a d;have R:=zKp (f:=λv st=>zz rest (i+1) (zZ x.name v f) st) (λv st h=>zRd rest _ _ st h) l _ d;have T:=zGz (f:=λv st=>zz rest (i+1) (zZ x.name v f) st) (λv st=>zGb rest _ _ st) l (zz rest (i+1) (zZ x.name v f) st).2
   obtain⟨u,w⟩:=zIx hd rest (i+1) (zZ x.name v f) st C (by omega) (zED f hok) (zGy f hok) (λn E=>by
    obtain⟨hm,A⟩:=zJj f hok n E;have Q:=hnm n hm;by_cases e:zBD ds n=i
    ·exact absurd (by rw[<-zNi e,P]) A
    omega) a R
   obtain⟨X,F2⟩:=ih _ u d;refine⟨X,λj s=> ?_⟩
   cases j with
   |zero=>exact w.app u.good X.good T
   |succ j=>exact F2 j (by simpa using s)
  obtain⟨u,w⟩:=J (zR f x) st a hfull;have t:=zC4 (f:=λv st=>zz rest (i+1) (zZ x.name v f) st) (zR f x) st;have D:=λv y h0 Q hy=>zOi (f:=f) (x:=x) (v:=v) (y:=y) h0 Q hy
  have I:=zHz f x;unfold zR at u w t⊢;generalize zEJ (((zAX x.name f).flatMap λn=>[n,n+1]).filter λn=>decide (x.lo<n)&&decide (n<=x.hi))=G at*;generalize zW (λv st=>zz rest (i+1) (zZ x.name v f) st) (x.lo::G) st=r at*;obtain⟨kids,W⟩:=r;simp only at u w t⊢
  cases kids with
  |nil=>simp at t
  |cons k0 ks=>
  have L:G.length=ks.length:=by simpa using t.symm
  have H:∀q∈k0::ks,∃j,j<(x.lo::G).length /\q=(k0::ks).getD j 0:=λq O=>by
   obtain⟨j,s,rfl⟩:=List.getElem_of_mem O;exact⟨j,by simp only[List.length_cons]at s⊢;omega,by rw[List.getD_eq_getElem?_getD,List.getElem?_eq_getElem s];rfl⟩
  have Z:=zK5 u.good z L (by rw[P];exact I) (λq O=>by obtain⟨j,s,rfl⟩:=H q O;exact(w j s).rng) (λq O V=>by
   obtain⟨j,s,rfl⟩:=H q O;have:=(w j s).low V
   omega)
  rw[P]at Z;obtain⟨M,hS,N⟩:=Z;generalize zAb W.all i (x.lo::G) (k0::ks)=o at*
  have hF:zIw ds o.2 i f o.1:=by
   refine⟨M.rng,λc m=> ?_,N⟩;rw[hS c];have aa:=zEr G (c.getD i 0);rw[(w (nx G (c.getD i 0)) (by simp only[List.length_cons];omega)).says c m];have b:=m.2 i z;rw[P]at b;have g:=zNj hd z;rw[P]at g;(refine zIt f hok λn E=> ?_);rw[g,Int.toNat_natCast];exact D (c.getD i 0) _ b.1 b.2 zQP n E
  refine⟨⟨M.good,λp B=> ?_⟩,hF⟩;rcases zEw B with B|B
  ·obtain⟨i',Y,e,U,F⟩:=u.done p B;exact⟨i',Y,e,U,F.app u.good M.good M.pre⟩
  subst B;exact⟨i,f,rfl,zF2 f hok,hF⟩
end grow
def zTV(l:List ByteArray):List ByteArray:=l.foldl (λks n=>if ks.any (λk=>decide (k=n))=true then ks else ks++[n]) []
def zDi(f:Fm):Nat:=(zTV (zAf f)).length
def zBp(ds:List zE)(f:Fm):List zB × Int:=
 if zT ds=false\/zBY ds f≠0 then([],1)
 else if 24<zDi f then([],2)
 else
  let r:=zz ds 0 (zZ ⟨#[]⟩ 0 f) ⟨[],[],false⟩
  if r.2.full=true then([],2)
  else if 4000<(zAr ds r.2.all r.1).length then([],2)
  else(zAr ds r.2.all r.1,0)
theorem zNk(h:zBp ds f=(g,0)):
  zBP ds g/\(∀c,Fit ds c->S ds g 0 c=evF ds c f):=by
 unfold zBp at h;split at h
 ·injection h with _ h;exact absurd h (by decide)
 rename_i hv;simp only[not_or,Bool.not_eq_false,ne_eq,Decidable.not_not]at hv;obtain⟨q,d⟩:=hv;have a:okF ds f:=(zHO d).2;split at h
 ·injection h with _ h;exact absurd h (by decide)
 simp only at h;split at h
 ·injection h with _ h;exact absurd h (by decide)
 rename_i hfull;split at h
 ·injection h with _ h;exact absurd h (by decide)
 rename_i hlen;injection h with h _;have o:GInv ds ⟨[],[],false⟩:=⟨Good.nil ds,λp w=>absurd w (by simp)⟩;obtain⟨A,F⟩:=zIx q ds 0 (zZ ⟨#[]⟩ 0 f) ⟨[],[],false⟩ (by simp) (Nat.zero_le _) (zED f a) (zGy f a) (λn b=>zKL _ (zED f a) n b) o (by simpa using hfull);subst h;refine⟨zJd q A.good F.rng (by omega),λc u=> ?_⟩;rw[zL1 A.good F.rng,F.says c u];refine zIt f a λn b=> ?_
 exfalso
 have:∀f:Fm,okF ds f->zAX ⟨#[]⟩ f=[]:=by
  intro f
  induction hs:zH f using Nat.strongRecOn generalizing f with
  | _ m ih=>
  intro a;obtain⟨op,nm,x,z,kids⟩:=f;obtain⟨v,j,_⟩:=zFm a;rw[zAX]
  have t:¬(op=3/\nm=⟨#[]⟩):=λ⟨h3,e⟩=>by
   rcases zC5 v with⟨_,_,_,_,b⟩|⟨_,h⟩
   ·simp only[Fm.name]at b;rw[e]at b;simp[zB6]at b
   simp only[Fm.op]at h;omega
  rw[if_neg t,List.nil_append]
  have:∀l:List Fm,(∀k∈l,zH k<m)->zEC ds l->zAU ⟨#[]⟩ l=[]:=by
   intro l
   induction l with
   |nil=>intro _ _;rfl
   |cons k r ih2=>
   intro s a;rw[zCk]at a;rw[zAU,ih (zH k) (s k (by simp)) k rfl a.1,ih2 (λk i=>s k (by simp[i])) a.2];rfl
  refine this kids (λk i=> ?_) j;have y:=zMS i;rw[zH]at hs;omega
 rw[this f a]at b;simp at b
def inn(g:List zB):Nat:=g.countP λn=>decide (n.kids≠[])
structure zFy (all:List zB):Prop where
 nodup:all.Nodup
 leaf:∀n∈all,n.kids=[]->n=⟨n.leaf,0,[],[]⟩
theorem zFy.nil:zFy []:=⟨by simp,by simp⟩
theorem zFy.len(h:zFy all):all.length<=inn all+2:=by
 have g:(all.filter λn=>decide (n.kids=[])).length <=2:=by
  have:=zFu (all.filter λn=>decide (n.kids=[])) [⟨true,0,[],[]⟩,⟨false,0,[],[]⟩] (h.nodup.filter _) (λx f=>by
   obtain⟨d,c⟩:=List.mem_filter.1 f;have e:=h.leaf x d (by simpa using c);rw[e]
   cases x.leaf<;>simp)
  simpa using this
 have b:=List.length_eq_countP_add_countP (λn:zB=>decide (n.kids=[])) (l:=all);have i:all.countP (λa:zB=>decide ¬(decide (a.kids=[])=true))=inn all:=by unfold inn;congr 1;funext n;simp
 rw[List.countP_eq_length_filter]at b;omega
theorem zTb(g t:List zB):inn (g++t)=inn g+inn t:=by unfold inn;rw[List.countP_append]
theorem zNl(h:zFy all){n:zB}(k:n.kids=[]->n=⟨n.leaf,0,[],[]⟩):zFy (zy all n).2/\Rng (zy all n).2 (zy all n).1/\inn (zy all n).2<=inn all+(if n.kids=[]then 0 else 1):=by
 unfold zy;by_cases d:n∈all
 ·rw[if_pos d];have f:=List.idxOf_lt_length_of_mem d;exact⟨h,⟨by simp,by simpa using f⟩,by simp⟩
 rw[if_neg d];refine⟨⟨?_,λm g=> ?_⟩,⟨by simp,by simp;omega⟩,?_⟩
 ·rw[List.nodup_append];exact⟨h.nodup,by simp,λa j b i e=>by simp at i;subst i;exact d (e▸j)⟩
 ·rcases List.mem_append.1 g with c|c
  ·exact h.leaf m c
  simp at c;subst c;exact k
 simp only;rw[zTb];have:inn [n]=if n.kids=[]then 0 else 1:=by unfold inn;by_cases e:n.kids=[]<;>simp[e]
 omega
theorem Rng.pre{g a:List zB}{i:Int}(h:Rng g i)(b:∃t,a=g++t):Rng a i:=by obtain⟨t,rfl⟩:=b;exact h.app t
theorem zPU(h:zFy all){i:Int}{ss ks:List Int}(f:∀k∈ks,Rng all k)(a:ks≠[]):zFy (zAb all i ss ks).2/\Rng (zAb all i ss ks).2 (zAb all i ss ks).1/\inn (zAb all i ss ks).2<=inn all+1:=by
 unfold zAb;split
 ·refine⟨h,f _ (zBa (List.length_pos_iff.2 a)),Nat.le_succ _⟩
 obtain⟨b,c,d⟩:=zNl h (n:=⟨false,i,(zX (ks.getD 0 0) ss ks).1,ks.getD 0 0::(zX (ks.getD 0 0) ss ks).2⟩) (λe=>by cases e);exact⟨b,c,by simpa using d⟩
structure WSt (st:GSt):Prop where
 tab:zFy st.all
 done:∀p∈st.done,Rng st.all p.2
theorem WSt.new:WSt ⟨[],[],false⟩:=⟨zFy.nil,by simp⟩
theorem zKr{st:GSt}(h:WSt st)(b full:Bool):WSt (zBw b full st).2/\Rng (zBw b full st).2.all (zBw b full st).1/\inn (zBw b full st).2.all <=inn st.all:=by
 obtain⟨a,c,d⟩:=zNl h.tab (n:=⟨b,0,[],[]⟩) (λ_=>rfl);exact⟨⟨a,λp e=>(h.done p e).pre (zFX _ _)⟩,c,by show inn (zy st.all ⟨b,0,[],[]⟩).2<=_;simpa using d⟩
theorem zKs{f:Int->GSt->Int × GSt}{B:Nat}(a:∀v st,∃t,(f v st).2.all =st.all++t)(c:∀v st,WSt st->WSt (f v st).2/\Rng (f v st).2.all (f v st).1/\inn (f v st).2.all <=max (inn st.all) B):∀(l:List Int)(st:GSt),WSt st->
  WSt (zW f l st).2/\(∀k∈(zW f l st).1,Rng (zW f l st).2.all k)/\inn (zW f l st).2.all <=max (inn st.all) B
 |[],st,h=>⟨h,by simp[zW],Nat.le_max_left _ _⟩
 |v::l,st,h=>by
  obtain⟨d,e,j⟩:=c v st h;obtain⟨g,i,m⟩:=zKs a c l _ d;refine⟨g,λk b=> ?_,?_⟩
  ·rcases List.mem_cons.1 b with rfl|b
   ·exact e.pre (zGz a l _)
   exact i k b
  unfold zW;simp only;omega
theorem zIA{σ:Type}{f:Int->σ->Int × σ}{l:List Int}{st:σ}(h:l≠[]):(zW f l st).1≠[]:=by
 intro e;have:=zC4 (f:=f) l st;rw[e]at this;exact h (List.eq_nil_of_length_eq_zero this.symm)
theorem zKt:∀(rest:List zE)(i:Nat)(f:Fm)(st:GSt),WSt st->WSt (zz rest i f st).2/\Rng (zz rest i f st).2.all (zz rest i f st).1/\inn (zz rest i f st).2.all <=max (inn st.all) (4000+rest.length)
 |[],i,f,st,h=>by
  unfold zz;split
  ·obtain⟨a,b,c⟩:=zKr h (decide (f.op=1)) st.full;exact⟨a,b,by omega⟩
  obtain⟨a,b,c⟩:=zKr h false (st.full||decide (4000<st.all.length));exact⟨a,b,by omega⟩
 |x::rest,i,f,st,h=>by
  unfold zz;split
  ·obtain⟨a,b,c⟩:=zKr h (decide (f.op=1)) st.full;exact⟨a,b,by omega⟩
  split
  ·obtain⟨a,b,c⟩:=zKr h false true;exact⟨a,b,by omega⟩
  rename_i hfl;split
  ·rename_i k hk;exact⟨h,h.done _ (zH6 hk),Nat.le_max_left _ _⟩
  have m:inn st.all<=4000:=by
   have s:inn st.all<=st.all.length:=List.countP_le_length;(have t:¬4000<st.all.length:=λe=>hfl (by rw[decide_eq_true e,Bool.or_true]));omega
  obtain⟨j,q,w⟩:=zKs (f:=λv st=>zz rest (i+1) (zZ x.name v f) st) (B:=4000+rest.length) (λv st=>zGb rest _ _ st) (λv st n=>zKt rest _ _ st n) (zR f x) st h;obtain⟨o,g,u⟩:=zPU j.tab (i:=i) (ss:=zR f x) q (zIA (by simp[zR]));refine⟨⟨o,λp d=> ?_⟩,g,?_⟩
  ·rcases zEw d with d|d
   ·exact(j.done p d).pre (zFk _ _ _ _)
   subst d;exact g
  simp only[List.length_cons];omega
theorem zSm{rest:List zE}{st:GSt}(h:WSt st){N:Nat}(d:inn st.all<=N)(e:4000+rest.length<=N):(zz rest i f st).2.all.length <=N+2:=by
 obtain⟨a,b,c⟩:=zKt rest i f st h;have:=a.tab.len;omega
theorem zOj(f:Fm)(x:zE):(zR f x).length <=1+2*(zAX x.name f).length :=by
 have d:∀(l:List Int)(n:Int),(zCp l n).length <=l.length+1:=by
  intro l n
  induction l with
  |nil=>simp[zCp]
  |cons a r ih=>unfold zCp;split<;>(try split)<;>simp<;>omega
 have c:∀(l m:List Int),(l.foldl zCp m).length <=m.length+l.length:=by
  intro l
  induction l with
  |nil=>simp
  |cons a l ih=>intro m;rw[List.foldl_cons];have:=ih (zCp m a);have:=d m a;simp;omega
 unfold zR zEJ;have b:=c ((((zAX x.name f).flatMap λn=>[n,n+1]).filter λn=>decide (x.lo<n)&&decide (n<=x.hi))) []
 have e:((((zAX x.name f).flatMap λn=>[n,n+1]).filter λn=>decide (x.lo<n)&&decide (n<=x.hi))).length <=2*(zAX x.name f).length :=by
  refine Nat.le_trans (List.length_filter_le _ _) ?_;generalize zAX x.name f=l
  induction l with
  |nil=>simp
  |cons a l ih=>rw[List.flatMap_cons,List.length_append];simp at ih⊢;omega
 simp at b⊢;omega
mutual
theorem zNm(nm:ByteArray):∀f:Fm,(zAX nm f).length <=zH f
 | .mk op n cm nu kids=>by
  have:=zMW nm kids;rw[zAX,zH,List.length_append];split<;>simp<;>omega
theorem zMW(nm:ByteArray):∀l:List Fm,(zAU nm l).length <=zV l
 |[]=>by simp[zAU,zV]
 |k::r=>by
  have a:=zNm nm k;have b:=zMW nm r;rw[zAU,zV,List.length_append];omega
end
mutual
def fitF:Fm->Prop
 | .mk op _ cm nu kids=>I64 op/\I64 cm/\I64 nu/\fitFs kids
def fitFs:List Fm->Prop
 |[]=>True
 |k::r=>fitF k/\fitFs r
end
mutual
theorem zHA:∀f:Fm,zDI f=true->fitF f->(zBN f).length <=100*zH f
 | .mk op nm cm nu kids,h,hf=>by
  rw[zDI]at h;rw[fitF]at hf;simp only[Bool.and_eq_true,decide_eq_true_eq]at h;obtain⟨⟨⟨i,j⟩,a⟩,b⟩:=h
  have m:nm.data.toList.length<=24:=by
   split at a
   ·revert a;generalize nm.data.toList=l;intro a
    cases l with
    |nil=>simp
    |cons c r=>unfold zB6 at a;simp only[Bool.and_eq_true,decide_eq_true_eq]at a;simpa using a.2
   rw[decide_eq_true_eq]at a;rw[a];simp
  have k:=zKu kids b hf.2.2.2;have d:=Lib.itoa_length_le op hf.1.1 hf.1.2;have e:=Lib.itoa_length_le cm hf.2.1.1 hf.2.1.2;have g:=Lib.itoa_length_le nu hf.2.2.1.1 hf.2.2.1.2;rw[zBN,zH];simp only[List.length_append,List.length_cons,List.length_nil];omega
theorem zKu:∀l:List Fm,zDP l=true->fitFs l->(zA1 l).length <=100*zV l
 |[],_,_=>by simp[zA1]
 |k::r,h,hf=>by
  rw[zDP]at h;rw[fitFs]at hf;simp only[Bool.and_eq_true]at h;have a:=zHA k h.1 hf.1;have b:=zKu r h.2 hf.2;rw[zA1,zV,List.length_append];omega
end
mutual
theorem FmR.fitF{Z:zD}{w:World}:∀(f:Fm)(cs:List Value),FmR Z w f cs->fitF f
 | .mk op nm c n kids,cs,h=>by
  unfold FmR at h;obtain⟨a,_,b,d,A,cap,e,_,_,_,g⟩:=h;exact⟨a,b,d,zAD.fitFs kids A g⟩
theorem zAD.fitFs{Z:zD}{w:World}:∀(l:List Fm)(A:Option Addr),zAD Z w l A->fitFs l
 |[],_,_=>trivial
 |k::ks,A,h=>by
  unfold zAD at h;obtain⟨b,d,cs,e,g,f,a,c⟩:=h;exact⟨FmR.fitF k cs a,zAD.fitFs ks _ c⟩
end
structure zFz (st:ASt):Prop where
 tab:zFy st.all
 done:∀p∈st.done,Rng st.all p.2
theorem zFz.new:zFz ⟨[],[]⟩:=⟨zFy.nil,by simp⟩
theorem zLi{f:Int->ASt->Int × ASt}{B:Nat}(a:∀v st,∃t,(f v st).2.all =st.all++t)(c:∀v st,zFz st->zFz (f v st).2/\Rng (f v st).2.all (f v st).1/\inn (f v st).2.all <=max (inn st.all) B):∀(l:List Int)(st:ASt),zFz st->
  zFz (zW f l st).2/\(∀k∈(zW f l st).1,Rng (zW f l st).2.all k)/\inn (zW f l st).2.all <=max (inn st.all) B
 |[],st,h=>⟨h,by simp[zW],Nat.le_max_left _ _⟩
 |v::l,st,h=>by
  obtain⟨d,e,j⟩:=c v st h;obtain⟨g,i,m⟩:=zLi a c l _ d;refine⟨g,λk b=> ?_,?_⟩
  ·rcases List.mem_cons.1 b with rfl|b
   ·exact e.pre (zGu a l _)
   exact i k b
  unfold zW;simp only;omega
section both
variable {ds:List zE} {a b:List zB}
theorem zNn(e:Good ds a)(g:Good ds b):∀(k:Nat)(x y:Int)(st:ASt),Rng a x->Rng b y->ds.length-(min (zU ds (nAt a x)) (zU ds (nAt b y))).toNat <k->zFz st->
  zFz (zAe ds a b k x y st).2/\Rng (zAe ds a b k x y st).2.all (zAe ds a b k x y st).1/\inn (zAe ds a b k x y st).2.all <=max (inn st.all) (4000+(ds.length-(min (zU ds (nAt a x)) (zU ds (nAt b y))).toNat))
 |0,_,_,_,_,_,h,_=>by omega
 |k+1,x,y,st,hx,hy,hk,h=>by
  have J:=zEk e hx;have K:=zEk g hy;unfold zAe
  cases j:kvI st.done (x,y)with
  |some r=>exact⟨h,h.done _ (zH6 j),Nat.le_max_left _ _⟩
  |none=>
  simp only;by_cases c:min (zU ds (nAt a x)) (zU ds (nAt b y))=ds.length\/4000<st.all.length
  ·simp only[if_pos c];obtain⟨m,C,D⟩:=zNl h.tab (n:=⟨(nAt a x).leaf &&(nAt b y).leaf,0,[],[]⟩) (λ_=>rfl);exact⟨⟨m,λp d=>(h.done p d).pre (zFX _ _)⟩,C,by simp only[if_true]at D;omega⟩
  simp only[if_neg c];have o:min (zU ds (nAt a x)) (zU ds (nAt b y))<ds.length:=by omega
  have E:inn st.all<=4000:=by
   have m:inn st.all<=st.all.length:=List.countP_le_length;omega
  obtain⟨s,H,P⟩:=zLi (f:=λv st=>zAe ds a b k (zAQ a x (min (zU ds (nAt a x)) (zU ds (nAt b y))) v) (zAQ b y (min (zU ds (nAt a x)) (zU ds (nAt b y))) v) st) (B:=4000+(ds.length-(min (zU ds (nAt a x)) (zU ds (nAt b y))).toNat)-1)
   (λv st=>zG2 ds a b k _ _ st) (λv st F=>by
    obtain⟨t,M⟩:=zDy e (v:=v) hx (Int.min_le_left _ _) o;obtain⟨u,N⟩:=zDy g (v:=v) hy (Int.min_le_right _ _) o;have L:=zEk e t;have A:=zEk g u;obtain⟨w,z,I⟩:=zNn e g k _ _ st t u (by omega) F
    exact⟨w,z,by omega⟩) (zAM ds (nAt a x) (nAt b y)) st h
  obtain⟨G,q,O⟩:=zPU s.tab (i:=min (zU ds (nAt a x)) (zU ds (nAt b y))) (ss:=zAM ds (nAt a x) (nAt b y)) H (zIA (by simp[zAM]));refine⟨⟨G,λp d=> ?_⟩,q,?_⟩
  ·rcases zEw d with d|d
   ·exact(s.done p d).pre (zFk _ _ _ _)
   subst d;exact q
  omega
def zGc(ds:List zE)(a b:List zB):List zB × Int:=
 if zBo ds a=true/\zBo ds b=true then
  let r:=zAe ds a b (ds.length+1) 0 0 ⟨[],[]⟩
  if 4000<r.2.all.length then([],2)else if 4000<(zBm ds r.2.all r.1).length then([],2)else(zAr ds r.2.all r.1,0)
 else([],1)
theorem zHM.new{P:List (Int × Int)}:zHM ds a b P ⟨[],[]⟩:=⟨Good.nil ds,by simp,λj c=>by have:=c.1;have:=c.2;simp at*;omega⟩
def zNo(n m:Nat):List (Int × Int):=(List.range n).flatMap λ(i:Nat)=>(List.range m).map λ(j:Nat)=>((i:Int),(j:Int))
theorem zGK{n m:Nat}{p:Int × Int}:p∈zNo n m↔(0<=p.1/\p.1<n)/\0<=p.2/\p.2<m:=by
 unfold zNo;simp only[List.mem_flatMap,List.mem_map,List.mem_range];constructor
 ·rintro⟨i,hi,j,hj,rfl⟩;exact⟨⟨by simp,by simpa using hi⟩,by simp,by simpa using hj⟩
 rintro⟨⟨h1,h2⟩,h3,h4⟩;exact⟨p.1.toNat,by omega,p.2.toNat,by omega,Prod.ext (by simp only;omega) (by simp only;omega)⟩
theorem zNp(c:Good ds a){x i v:Int}(b:Rng a x):Rng a (zAQ a x i v):=by
 unfold zAQ;split
 ·rename_i h;have I:=c.inner b h.1;exact I.rng _ (I.kid_rng v)
 exact b
theorem zKv(e:Good ds a)(f:Good ds b):Closed ds a b (zNo a.length b.length):=λp g=>by
 obtain⟨c,d⟩:=zGK.1 g;exact⟨c,d,λv=>zGK.2 ⟨zNp e c,zNp f d⟩⟩
theorem zIB(c:zBP ds a)(d:zBP ds b):ds.length-(min (zU ds (nAt a 0)) (zU ds (nAt b 0))).toNat <ds.length+1:=by omega
theorem zUF(h:zGc ds a b=(g,0)):zBP ds a/\zBP ds b/\zBP ds g/\∀c,Fit ds c->S ds g 0 c=(S ds a 0 c&&S ds b 0 c):=by
 unfold zGc at h;split at h
 ·rename_i hv;have d:=zD0.1 hv.1;have e:=zD0.1 hv.2;have i:=zGU d.dom;simp only at h;split at h
  ·injection h with _ h;exact absurd h (by decide)
  rename_i h1;split at h
  ·injection h with _ h;exact absurd h (by decide)
  rename_i h2;injection h with h _;obtain⟨A,F⟩:=zIg i d.good e.good (zKv d.good e.good) (ds.length+1) 0 0 ⟨[],[]⟩ (zGK.2 ⟨d.rng,e.rng⟩) (zIB d e) zHM.new (Or.inr (by omega));subst h;refine⟨d,e,zJd d.dom A.good F.rng (by unfold zAr;rw[List.length_map];omega),λc f=> ?_⟩;rw[zL1 A.good F.rng];exact F.says c f
 injection h with _ h;exact absurd h (by decide)
theorem zXE(d:zBP ds a)(e:zBP ds b){P:List (Int × Int)}(h:Closed ds a b P)(g:((0:Int),(0:Int))∈P)(c:P.length<=4000):(zGc ds a b).2=0:=by
 unfold zGc;rw[if_pos ⟨zD0.2 d,zD0.2 e⟩];have f:=zGU d.dom;obtain⟨A,F⟩:=zIg f d.good e.good h (ds.length+1) 0 0 ⟨[],[]⟩ g (zIB d e) zHM.new (Or.inl c);have i:=A.length_le f;simp only;rw[if_neg (by omega),if_neg (by have:=(zEI A.good F.rng).length_le;omega)]
end both
section
variable {ds:List zE} {a b:List zB}
theorem zU0(b:zBP ds a)(c:List Int):S ds (zXP a) 0 c= !S ds a 0 c:=zRJ b.good _ 0 b.rng (Nat.le_refl _) c
end
def tFm:Fm:= .mk 1 ⟨#[]⟩ 0 0 []
def fFm:Fm:= .mk 2 ⟨#[]⟩ 0 0 []
def zBH(ds:List zE)(e:Int)(a b:List zB):List zB × Int:=if e≠0 then([],e)else zGc ds a b
instance decFact:DecidableEq zE:=λa b=>decidable_of_iff (a.name=b.name/\a.kind=b.kind/\a.lo=b.lo/\a.hi=b.hi) (by cases a;cases b;simp)
section
variable {ds:List zE} {f:Fm} {a b:List zB} {e:Int}
theorem zRe(h:(zBH ds e a b).2=0):e=0/\zBP ds a/\zBP ds b/\zBP ds (zBH ds e a b).1/\∀c,Fit ds c->S ds (zBH ds e a b).1 0 c=(S ds a 0 c&&S ds b 0 c):=by
 unfold zBH at h⊢;by_cases he:e=0
 ·subst he;rw[if_neg (by simp)]at h⊢;have:=zUF (g:=(zGc ds a b).1) (Prod.ext rfl h);exact⟨rfl,this.1,this.2.1,this.2.2.1,this.2.2.2⟩
 rw[if_pos he]at h;exact absurd h he
theorem zOk(ds:List zE):zBY ds tFm=0/\zBY ds fFm=0:=by
 constructor
 ·have b:zDl tFm=false:=by decide+kernel
  have a:zCC tFm=true:=by decide+kernel
  unfold zBY;rw[b,if_neg (by simp)];unfold tFm;rw[zA0,show zAB ds (.mk 1 ⟨#[]⟩ 0 0 [])=0 from by unfold zAB;unfold tFm at a;rw[a];simp[Fm.op]];rfl
 have b:zDl fFm=false:=by decide+kernel
 have a:zCC fFm=true:=by decide+kernel
 unfold zBY;rw[b,if_neg (by simp)];unfold fFm;rw[zA0,show zAB ds (.mk 2 ⟨#[]⟩ 0 0 [])=0 from by unfold zAB;unfold fFm at a;rw[a];simp[Fm.op]];rfl
theorem zTc(c:List Int):evF ds c fFm=false:=zEm rfl
theorem zTW(h:zBP ds a):zBP ds (zXP a)/\∀c,S ds (zXP a) 0 c= !S ds a 0 c:=⟨zPe h,zU0 h⟩
end
structure zF where
 id:ByteArray
 auth:ByteArray
 kind:Int
 target:ByteArray
 when_:Fm
 from_:Int
 until_:Int
 wind:Int
structure zM where
 dom:List zE
 auths:List ByteArray
 zones:List zp
 cases:List (List Int)
 signed:Int
 now:Int
def zCD(m:zF):Bool:=zEM m.from_&&decide (0<=m.wind)&&decide (m.wind<=400)&&(decide (m.wind<=0)||decide (m.kind=1))&&(decide (m.until_= -1)||zEM m.until_&&decide (m.from_<m.until_))
def zCx(m:zF)(z:zp):Int × Int × Int:=
 if zCD m=false\/zBn z=false then(0,0,1)
 else if(zA4 z m.from_).2≠0 then(0,0,10)
 else((zA4 z m.from_).1,if m.until_<0\/(zA4 z m.until_).2≠0 then-1 else(zA4 z m.until_).1,0)
def zD2(m:zF)(z:zp)(sg now:Int):Bool:=
 if(zCx m z).2.2≠0\/zCN sg=false\/zCN now=false\/now<(zCx m z).1\/(0<=(zCx m z).2.1/\(zCx m z).2.1<=now)then false
 else if(zCx m z).1<=sg then true
 else decide ((zA4 z (m.from_+m.wind)).2=0)&&decide ((zA4 z (m.from_+m.wind)).1<=now)
def zDA:List Int->Int->List Int
 |[],x=>[x]
 |y::r,x=>if x<y then x::y::r else if x=y then y::r else y::zDA r x
def zBI(z:zp)(l:List Int)(d:Int):List Int:=if(zA4 z d).2=0 then zDA l (zA4 z d).1 else l
def zDa(m:zF):List Int:=if 0<=m.until_ then[m.from_,m.from_+m.wind,m.until_]else[m.from_,m.from_+m.wind]
def placeOf(l:List ByteArray)(a:ByteArray):Nat:=l.findIdx λx=>decide (x=a)
def zA5(zs:List zp)(i:Nat):zp:=zs.getD i []
def zBS(auths:List ByteArray)(zs:List zp):List zF->List Int->List Int × Int
 |[],l=>(l,0)
 |m::r,l=>if placeOf auths m.auth<auths.length then
   (if zCD m=false then([],1)else zBS auths zs r ((zDa m).foldl (zBI (zA5 zs (placeOf auths m.auth))) l))
  else zBS auths zs r l
def zCV(auths:List ByteArray)(zs:List zp)(i:Nat):Bool:=zAy (auths.getD i ⟨#[]⟩)&&zBn (zA5 zs i)&& !(decide (auths.getD i ⟨#[]⟩∈auths.take i))
def zBd(l:List zF)(auths:List ByteArray)(zs:List zp):List Int × Int:=
 if 200<l.length\/6<auths.length then([],2)
 else if auths.length≠zs.length then([],1)
 else if(List.range auths.length).all (zCV auths zs)=false then([],1)
 else zBS auths zs l [0]
def zDb(s:zM)(i:Nat):List Int:=s.cases.getD i []
def zCR(s:zM):Bool:=
 decide (1<=s.auths.length)&&decide (s.auths.length<=6)&&decide (s.zones.length=s.auths.length)&&decide (s.cases.length=s.auths.length)&&zT s.dom
 &&(List.range s.auths.length).all (λi=>zCV s.auths s.zones i&&fits s.dom (zDb s i))&&decide (0<=s.signed)&&decide (s.signed<=s.now)&&decide (s.now<=144001439)
def zGd(m:zF):Bool:=zAy m.id&&zAy m.auth&&(if m.kind=1 then decide (m.target=⟨#[]⟩)else if m.kind=2 then zAy m.target&&decide (m.target≠m.id)else if m.kind=3 then zAy m.target&&decide (m.target≠m.auth)else false)
def zFB(m:zF):Bool:=decide (0<=m.from_)&&decide (m.from_<=100000)&&(decide (m.until_= -1)||decide (m.from_<m.until_)&&decide (m.until_<=100000))&&decide (0<=m.wind)&&decide (m.wind<=if m.kind=1 then 400 else 0)
def zBA(ds:List zE)(m:zF):Int:=if zT ds=false\/zGd m=false then 1 else if zFB m=false then 10 else zBY ds m.when_
def zC9(ds:List zE):List zF->Int
 |[]=>0
 |m::r=>if zBA ds m=0 then zC9 ds r else zBA ds m
def zDc(l:List zF)(s:zM):Int:=
 if zCR s=false then 1 else if 200<l.length then 2 else if zC9 s.dom l≠0 then zC9 s.dom l else if(l.map zF.id).Nodup then 0 else 9
def z1(s:zM)(kind:Int)(m:zF):Bool:=
 decide (placeOf s.auths m.auth<s.auths.length)&&decide (m.kind=kind)&&zD2 m (zA5 s.zones (placeOf s.auths m.auth)) s.signed s.now&&zFl s.dom (zDb s (placeOf s.auths m.auth)) m.when_
def zJZ(l:List zF)(s:zM)(m:zF):Bool:=(l.filter (z1 s 2)).any λx=>decide (x.auth=m.auth)&&decide (x.target=m.id)
def zD3(l:List zF)(s:zM):List zF:=(l.filter (z1 s 1)).filter λm=> !zJZ l s m
def zH7(l:List zF)(s:zM):List zF:=(l.filter (z1 s 3)).filter λm=>(zD3 l s).any λx=>decide (x.auth=m.target)
structure zGL where
 kind:Int
 forbids:List ByteArray
 blocks:List ByteArray
def zKw:zGL:=⟨0,[],[]⟩
def zKx(l:List zF)(s:zM):zGL:=
 if zD3 l s=[]then⟨1,[],[]⟩else if zH7 l s=[]then⟨2,(zD3 l s).map zF.id,[]⟩else⟨3,(zD3 l s).map zF.id,(zH7 l s).map zF.id⟩
def zP(l:List zF)(s:zM):zGL × Int:=if zDc l s≠0 then(zKw,zDc l s)else(zKx l s,0)
def zB2(s:ByteArray):Prop:=s.size<=140737488355328
structure Names (Z:zD) (w:World) (v:Value) (l:List ByteArray):Prop where
 is:∃A cap,v= .slice A l.length cap/\l.length<=cap/\cap<=9223372036854775807/\l.length*16<=140737488355328/\Row Z w A (l.map .string)
 fit:∀x∈l,zB2 x
def zF9(Z:zD)(w:World)(cs:List Value)(z:zp):Prop:=∃v,cs=[v]/\zB4 Z w v z
def zFC(Z:zD)(w:World)(cs:List Value)(c:List Int):Prop:=∃v,cs=[v]/\zO Z w v c
def zj{α:Type}(R:zD->World->List Value->α->Prop)(k:Nat)(Z:zD)(w:World)(v:Value)(l:List α):Prop:=
 ∃A cap,v= .slice A l.length cap/\l.length<=cap/\cap<=9223372036854775807/\l.length<=5864062014805/\zAW (R Z w) k Z w l A
def zBs(Z:zD)(w:World)(cs:List Value)(m:zF):Prop:=
 ∃fc,FmR Z w m.when_ fc/\cs=[.string m.id,.string m.auth,.int .i64 m.kind,.string m.target]++(fc++[.int .i64 m.from_,.int .i64 m.until_,.int .i64 m.wind])/\zB2 m.id/\zB2 m.auth/\zB2 m.target/\I64 m.kind/\I64 m.from_/\I64 m.until_/\I64 m.wind
abbrev zCy:=zj zF9 1
abbrev zDK:=zj zFC 1
abbrev zn:=zj zBs 12
structure zBq (Z:zD) (w:World) (vd va vz vc:Value) (s:zM):Prop where
 d:Facts Z w vd s.dom
 a:Names Z w va s.auths
 z:zCy Z w vz s.zones
 c:zDK Z w vc s.cases
 i1:I64 s.signed
 i2:I64 s.now
section keep
variable {Z Z':zD} {w w':World} {v:Value}
theorem Names.keep(h:Names Z w v l)(f:zA Z w w'):Names Z w' v l:=by
 obtain⟨⟨A,cap,e,b,c,a,g⟩,d⟩:=h;exact⟨⟨A,cap,e,b,c,a,g.keep f⟩,d⟩
theorem Names.mono(h:Names Z w v l)(i:∀b,Z b->Z' b):Names Z' w v l:=by
 obtain⟨⟨A,cap,e,c,d,a,g⟩,f⟩:=h;exact⟨⟨A,cap,e,c,d,a,g.mono i⟩,f⟩
theorem Names.at_{n cap:Nat}(h:Names Z w (.slice A n cap) l){k:Nat}(d:k<l.length):∃b a,A=some ⟨b,a,none⟩/\Z b/\b<w.heap.size/\w.cell? ⟨b,a+k,none⟩=some (.string l[k]):=by
 obtain⟨⟨j,c,e,_,_,_,g⟩,_⟩:=h;injection e with e1 e2 e3;subst e1;obtain⟨b,a,rfl,i,f⟩:=g (by intro e;rw[List.map_eq_nil_iff]at e;subst e;simp at d);have:=f k (.string l[k]) (by simp[d]);exact⟨b,a,rfl,i,lt_of_cell this,this⟩
theorem Names.form(h:Names Z w v l):∃A cap,v= .slice A l.length cap/\l.length<=cap/\cap<=9223372036854775807/\l.length<=8796093022208:=by
 obtain⟨⟨A,cap,e,a,b,c,_⟩,_⟩:=h;exact⟨A,cap,e,a,b,by omega⟩
theorem zF9.keep(h:zF9 Z w cs z)(a:zA Z w w'):zF9 Z w' cs z:=by obtain⟨v,e,h⟩:=h;exact⟨v,e,h.keep a⟩
theorem zF9.mono(h:zF9 Z w cs z)(a:∀b,Z b->Z' b):zF9 Z' w cs z:=by obtain⟨v,e,h⟩:=h;exact⟨v,e,h.mono a⟩
theorem zFC.keep(h:zFC Z w cs c)(a:zA Z w w'):zFC Z w' cs c:=by obtain⟨v,e,h⟩:=h;exact⟨v,e,h.keep a⟩
theorem zFC.mono(h:zFC Z w cs c)(a:∀b,Z b->Z' b):zFC Z' w cs c:=by obtain⟨v,e,h⟩:=h;exact⟨v,e,h.mono a⟩
theorem zBs.keep{m:zF}(h:zBs Z w cs m)(d:zA Z w w'):zBs Z w' cs m:=by
 obtain⟨a,b,c⟩:=h;exact⟨a,FmR.keep d _ _ b,c⟩
theorem zBs.mono{m:zF}(h:zBs Z w cs m)(e:∀b,Z b->Z' b):zBs Z' w cs m:=by
 obtain⟨a,c,d⟩:=h;exact⟨a,FmR.mono e _ _ c,d⟩
section rows
variable {α:Type} {R:zD->World->List Value->α->Prop} {k:Nat} {l:List α}
theorem zj.keep(d:∀{cs x},R Z w cs x->R Z w' cs x)(h:zj R k Z w v l)(f:zA Z w w'):zj R k Z w' v l:=by
 obtain⟨A,cap,e,b,c,a,g⟩:=h;exact⟨A,cap,e,b,c,a,g.imp (λ_ _ h=>d h) f (λ_ h=>h)⟩
theorem zj.mono(f:∀{cs x},R Z w cs x->R Z' w cs x)(h:zj R k Z w v l)(i:∀b,Z b->Z' b):zj R k Z' w v l:=by
 obtain⟨A,cap,e,c,d,a,g⟩:=h;exact⟨A,cap,e,c,d,a,g.imp (λ_ _ h=>f h) (zA.refl _ _) i⟩
theorem zj.form(h:zj R k Z w v l):∃A cap,v= .slice A l.length cap/\l.length<=5864062014805:=by
 obtain⟨A,cap,e,b,c,a,_⟩:=h;exact⟨A,cap,e,a⟩
theorem zj.at_{n cap:Nat}(h:zj R k Z w (.slice A n cap) l)(hi:i<l.length):
  ∃b a cs,A=some ⟨b,a,none⟩/\Z b/\(∀j u,cs[j]? =some u->w.cell? ⟨b,a+i*k+j,none⟩=some u)/\R Z w cs l[i]:=by
 obtain⟨f,c,e,_,_,_,d⟩:=h;injection e with e1 e2 e3;subst e1;exact d.at_ hi
theorem zj.nil{Z:zD}{w:World}:zj R k Z w (.slice none 0 0) []:=⟨none,0,rfl,Nat.le_refl _,by omega,by simp,trivial⟩
end rows
theorem zCy.keep{l:List zp}(h:zCy Z w v l)(a:zA Z w w'):zCy Z w' v l:=zj.keep (λh=>zF9.keep h a) h a
theorem zCy.mono{l:List zp}(h:zCy Z w v l)(a:∀b,Z b->Z' b):zCy Z' w v l:=zj.mono (λh=>zF9.mono h a) h a
theorem zDK.keep{l:List (List Int)}(h:zDK Z w v l)(a:zA Z w w'):zDK Z w' v l:=zj.keep (λh=>zFC.keep h a) h a
theorem zDK.mono{l:List (List Int)}(h:zDK Z w v l)(a:∀b,Z b->Z' b):zDK Z' w v l:=zj.mono (λh=>zFC.mono h a) h a
theorem zn.keep{l:List zF}(h:zn Z w v l)(a:zA Z w w'):zn Z w' v l:=zj.keep (λh=>zBs.keep h a) h a
theorem zn.mono{l:List zF}(h:zn Z w v l)(a:∀b,Z b->Z' b):zn Z' w v l:=zj.mono (λh=>zBs.mono h a) h a
theorem zCy.at_{n cap:Nat}{l:List zp}(h:zCy Z w (.slice A n cap) l)(hi:i<l.length):
  ∃b c d a,A=some ⟨b,c,none⟩/\Z b/\b<w.heap.size/\w.cell? ⟨b,c+i,none⟩=some (.slice d (zA5 l i).length a)/\zB4 Z w (.slice d (zA5 l i).length a) (zA5 l i):=by
 obtain⟨b,c,cs,rfl,k,j,v,rfl,f⟩:=zj.at_ h hi;have g:zA5 l i=l[i]:=by unfold zA5;simp[hi]
 obtain⟨d,a,rfl,-⟩:=f.form;have e:=j 0 _ rfl;rw[Nat.mul_one,Nat.add_zero]at e;rw[g];exact⟨b,c,d,a,rfl,k,lt_of_cell e,e,f⟩
theorem zDK.at_{n cap:Nat}{l:List (List Int)}(h:zDK Z w (.slice A n cap) l)(hi:i<l.length):
  ∃b c d a,A=some ⟨b,c,none⟩/\Z b/\b<w.heap.size/\w.cell? ⟨b,c+i,none⟩=some (.slice d (l.getD i []).length a)/\zO Z w (.slice d (l.getD i []).length a) (l.getD i []):=by
 obtain⟨b,c,cs,rfl,o,j,v,rfl,m⟩:=zj.at_ h hi;have f:l.getD i []=l[i]:=by simp[hi]
 obtain⟨⟨d,a,rfl,g⟩,k⟩:=m;have e:=j 0 _ rfl;rw[Nat.mul_one,Nat.add_zero]at e;rw[f];exact⟨b,c,d,a,rfl,o,lt_of_cell e,e,⟨⟨d,a,rfl,g⟩,k⟩⟩
theorem FmR.form'(h:FmR Z w f cs):∃A cap,cs=[.int .i64 f.op,.string f.name,.int .i64 f.cmp,.int .i64 f.num,.slice A f.kids.length cap]:=by
 obtain⟨op,nm,c,n,kids⟩:=f;unfold FmR at h;obtain⟨_,_,_,_,A,cap,e,_⟩:=h;exact⟨A,cap,e⟩
theorem zBs.form{m:zF}(h:zBs Z w cs m):∃A cap,cs=[.string m.id,.string m.auth,.int .i64 m.kind,.string m.target,.int .i64 m.when_.op,.string m.when_.name,.int .i64 m.when_.cmp,.int .i64 m.when_.num,.slice A m.when_.kids.length cap,.int .i64 m.from_,.int .i64 m.until_,.int .i64 m.wind]/\
  FmR Z w m.when_ [.int .i64 m.when_.op,.string m.when_.name,.int .i64 m.when_.cmp,.int .i64 m.when_.num,.slice A m.when_.kids.length cap]/\zB2 m.id/\zB2 m.auth/\zB2 m.target/\I64 m.kind/\I64 m.from_/\I64 m.until_/\I64 m.wind:=by
 obtain⟨d,a,b,c⟩:=h;obtain⟨A,cap,rfl⟩:=FmR.form' a;exact⟨A,cap,b,a,c⟩
theorem zBq.keep{vd e g f:Value}{s:zM}(h:zBq Z w vd e g f s)(b:zA Z w w'):zBq Z w' vd e g f s:=⟨h.d.keep b,h.a.keep b,zCy.keep h.z b,zDK.keep h.c b,h.i1,h.i2⟩
theorem zBq.mono{vd f i g:Value}{s:zM}(h:zBq Z w vd f i g s)(e:∀b,Z b->Z' b):zBq Z' w vd f i g s:=⟨h.d.mono e,h.a.mono e,zCy.mono h.z e,zDK.mono h.c e,h.i1,h.i2⟩
end keep
theorem zBQ{b o:Nat}{v0 v1 v2 v3 v4 e f g h i c d:Value}(a:∀(j:Nat)(u:Value),[v0,v1,v2,v3,v4,e,f,g,h,i,c,d][j]? =some u->w.cell? ⟨b,o+j,none⟩=some u):
  w.cell? ⟨b,o,none⟩=some v0/\w.cell? ⟨b,o+1,none⟩=some v1/\w.cell? ⟨b,o+2,none⟩=some v2/\w.cell? ⟨b,o+3,none⟩=some v3/\w.cell? ⟨b,o+4,none⟩=some v4/\w.cell? ⟨b,o+5,none⟩=some e/\w.cell? ⟨b,o+6,none⟩=some f/\w.cell? ⟨b,o+7,none⟩=some g/\w.cell? ⟨b,o+8,none⟩=some h/\w.cell? ⟨b,o+9,none⟩=some i/\w.cell? ⟨b,o+10,none⟩=some c/\w.cell? ⟨b,o+11,none⟩=some d:=
 ⟨a 0 _ rfl,a 1 _ rfl,a 2 _ rfl,a 3 _ rfl,a 4 _ rfl,a 5 _ rfl,a 6 _ rfl,a 7 _ rfl,a 8 _ rfl,a 9 _ rfl,a 10 _ rfl,a 11 _ rfl⟩
end Go.Proofs.YtommaegelgilnaaGreatDoor
