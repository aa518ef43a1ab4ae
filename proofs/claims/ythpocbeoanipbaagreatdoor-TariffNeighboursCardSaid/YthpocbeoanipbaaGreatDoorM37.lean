/- Texts TZ TO TT2 TT3 TT4 TT5 TI4 TI5 TI6 TI7. -/
import Derived.Test.YthpocbeoanipbaaGreatDoorM35
set_option linter.all false
namespace Go.Proofs.YthpocbeoanipbaaGreatDoor
open Go.RowKit Go.Proofs.Tryz
set_option maxHeartbeats 4000000
set_option maxRecDepth 100000
variable{A DA LA:Option Addr}{R cap dcap k lcap:Nat}{csl:List (List Value)}{d ds:List zC}{f:Fm}{l:zI}{r ts:List Tok}{s:ByteArray}{t:zY}{tmps:Array Value}{w x:World}
def nA1:ByteArray:=⟨#[97,49]⟩
def nB2:ByteArray:=⟨#[98,50]⟩
def nC3:ByteArray:=⟨#[99,51]⟩
def lA1:zI:=⟨.mk 5 za 0 0 [zEh zEz 6 100,zEh zFA 1 1],nA1,true⟩
def lB2:zI:=⟨zEh zFA 1 1,nB2,true⟩
def lC3:zI:=⟨zEh zEz 3 50,nC3,false⟩
def zVs:zI:=⟨.mk 5 za 0 0 [zEh zEz 5 110,zEh zFA 1 1],nA1,false⟩
def zCd:zY:=⟨zUT,[lA1,lB2,lC3]⟩
def zIy:zY:=⟨zUT,[lB2,lC3]⟩
def zHj:zY:=⟨zUT,[lA1,lB2,lC3,zVs]⟩
theorem zVt:zCg zEQ=(zCd,0,0):=by kernel_rfl
theorem zVb:zCg zMK=(zHj,0,0):=by kernel_rfl
theorem zVc:(zCg zOU).2=(7,26):=by decide+kernel
theorem zVd:zMJ zCd=(zEQ,0):=by decide+kernel
theorem zVP:z7 zCd=true:=by decide+kernel
theorem zWE:zAR zCd [120,1]=(0,0):=by decide+kernel
theorem zWF:zAR zCd [20,0]=(2,0):=by decide+kernel
theorem zWG:zAR zCd [60,0]=(0,11):=by decide+kernel
theorem zVu:zBF zCd=(some [50,0],0):=by decide+kernel
theorem zVe:zBe zHj=([3],0):=by decide+kernel
theorem zVf:zS zCd zIy=(some [100,1],0):=by decide+kernel
def zVv(t:zY)(c:List Int)(w:World)(e:Ending)(w':World):Prop:=∃b:Bool,e= .returned (.bool b)/\Below w.heap.size w w'/\(b=true->t.lines.length<=8/\(∀x∈t.lines,zG x.when_<=40)/\c.length<=30)
theorem zEp(Z Zc:zE)(vd n F:Value)(t:zY)(c:List Int)(w:World)(h:zAA Z w vd n t)(I:zK Zc w F c)(E:∀b,Z b->b<w.heap.size):
  Calls prog 10 #[.agg #[vd,n],F] w (zVv t c w):=by
 have z:=hid (λW(B:Below w.heap.size w W)=>zTV Z vd n t W (h.keep (.of_below B)) (λb m=>Nat.lt_of_lt_of_le (E b m) B.size));obtain⟨⟨J,A,rfl,q,s,u,v⟩,-⟩:=I;obtain⟨D,dcap,x⟩:∃i a,vd= .slice i t.dom.length a:=by obtain⟨⟨i,a,e,_⟩,_⟩:=h.d;exact⟨i,a,e⟩
 obtain⟨LA,lcap,y⟩:∃i a,n= .slice i t.lines.length a:=by obtain⟨⟨i,a,e,_⟩⟩:=h.l;exact⟨i,a,e⟩
 subst x y;have G:=hid u;clear h q s v E;have o:=hid (Blk.new w 27 #[.slice D t.dom.length dcap,.slice LA t.lines.length lcap]);have j:=hid (zF w (.cells #[.slice D t.dom.length dcap,.slice LA t.lines.length lcap] 27));go_enter func10,ntmps10
 go_wp2_with fail
 refine(z.out _ j.out).mono ?_;rintro e K ⟨b,rfl,m,g⟩;have k:=hid (zD j.out m);have f:=hid g;clear m g z j o;cases b
 ·go_wp2_with fail
  go_ret;exact⟨false,rfl,k.out,λh=>by cases h⟩
 ·by_cases C:c.length<=30
  ·(have H:decide ((c.length:Int)<=(30:Int))=true:=by simp;omega);(go_wp2_with fail);go_ret;exact⟨true,by simp[C],k.out,λ_=>⟨(f.out (by first|exact rfl|trivial)).1,(f.out (by first|exact rfl|trivial)).2,C⟩⟩
  ·(have H:decide ((c.length:Int)<=(30:Int))=false:=by simp;omega);(go_wp2_with fail);go_ret;exact⟨false,by simp<;>omega,k.out,λh=>by cases h⟩
def outT(t:zY)(c:List Int):zAI × Bool:=if(zAR t c).2=0 then(((t.lines[zAw t c]?).map zAo).getD zAi,true)else(zAi,false)
theorem zQK{c:List Int}(h:(zAR t c).2=0):zAw t c<t.lines.length/\(zAR t c).1=((zAw t c:Nat):Int):=by
 unfold zAR at h⊢;split at h
 ·simp at h
 ·split at h
  ·rename_i h1 h2;rw[if_neg h1,if_pos h2];exact⟨h2,rfl⟩
  ·simp at h
theorem zEj(Z Zc:zE)(vd vl vc:Value)(t:zY)(c:List Int)(w:World)(h:zAA Z w vd vl t)(A:zK Zc w vc c)(V:∀b,Z b->b<w.heap.size)(J:∀b,Zc b->b<w.heap.size)(hf:t.fine):
  Calls prog 22 #[.agg #[vd,vl],vc] w λe w'=>e= .returned (.tuple #[.string (outT t c).1.1,.bool (outT t c).1.2,.bool (outT t c).2])/\Below w.heap.size w w':=by
 have q:=hid (λW(K:Below w.heap.size w W)=>zDZ Z Zc vd vl vc t c W (h.keep (.of_below K)) (A.keep (.of_below K)) (λb y=>Nat.lt_of_lt_of_le (V b y) K.size) (λb y=>Nat.lt_of_lt_of_le (J b y) K.size) hf);have HZ:=hid V;obtain⟨D,dcap,U⟩:∃L g,vd= .slice L t.dom.length g:=by obtain⟨⟨L,g,e,_⟩,_⟩:=h.d;exact⟨L,g,e⟩
 subst U;obtain⟨⟨LA,lcap,rfl,Q,R,F,m⟩⟩:=h.l;have B:=hid m;have M:=hid F;have i:=hid (λ(h:(zAR t c).2=0)=>zQK h);have a:=hid (show outT t c=if(zAR t c).2=0 then(((t.lines[zAw t c]?).map zAo).getD zAi,true)else(zAi,false) from rfl);generalize outT t c=ab at*;generalize zAR t c=cl at*;obtain⟨ci,ce⟩:=cl;dsimp only at i a q;clear h A V J hf m Q R F;have v:=hid (Blk.new w 27 #[.slice D t.dom.length dcap,.slice LA t.lines.length lcap]);have n:=hid (zF w (.cells #[.slice D t.dom.length dcap,.slice LA t.lines.length lcap] 27));go_enter func22,ntmps22
 go_wp2_with fail
 refine(q.out _ n.out).mono ?_;rintro e w1 ⟨rfl,y⟩;have C:=hid (v.out.below y v.out.lt);have o:=hid (zD n.out y);clear y v n q;by_cases he:ce=0
 ·subst he;obtain⟨H,P⟩:=i.out (by first|exact rfl|trivial);subst P;have s:=hid (a.out.trans (if_pos (by first|exact rfl|trivial)));clear i a;obtain⟨b,aa,cs,rfl,I,z,G⟩:=B.out.at_ H;have T:=HZ.out b I;have HL:=hid (show t.lines[zAw t c]? =some t.lines[zAw t c] from List.getElem?_eq_getElem H);have ae:((zAw t c:Nat):Int)<(t.lines.length:Int):=by omega
  generalize zAw t c=k at*;generalize t.lines[k]=x at*;obtain⟨f,N,O⟩:=x;obtain⟨FA,E,rfl,-⟩:=G.form;dsimp only at z;have A:∀(j:Nat)(u:Value),[Value.int .i64 f.op,.string f.name,.int .i64 f.cmp,.int .i64 f.num,.slice FA f.kids.length E,.string N,.bool O][j]? =some u->w1.cell? ⟨b,aa+k*7+j,none⟩=some u:=λj u hu=>(o.out.cell (p:=⟨b,_,none⟩) T).trans (z j u hu)
  have c5:=A 5 _ rfl;have c6:=A 6 _ rfl;have ad:=lt_of_cell c5;have ac:t.lines.length<=140737488355328:=by have:=M.out;omega
  clear z A G B;obtain⟨o0,X,o1,Y,ol⟩:=C.out.c2;go_upto_region 4 with fail
  go_quiet(fail);go_wp2_with fail
  go_ret3;rw[s.out,HL.out];exact⟨rfl,((zA.of_below (Z:=λ_=>True) o.out).drewN _).below⟩
 ·have s:=hid (a.out.trans (if_neg he));have e1:((ce:Int)==(0:Int))=false:=by simp[he]
  clear i a;obtain⟨o0,X,o1,Y,ol⟩:=C.out.c2;go_wp2_with fail
  go_ret3;rw[s.out];exact⟨rfl,o.out⟩
theorem zTZ(Z:zE)(f:Fm)(cs:List Value)(w:World)(z:FmR Z w f cs):
  Calls prog 90 #[.agg cs.toArray] w λe w'=>e= .returned (.int .i64 (zIA f))/\Below w.heap.size w w':=by
 obtain⟨A,cap,rfl⟩:=FmR.form z;have B:=hid (λo=>zLl Z f _ (w.alloc o) (FmR.keep (.alloc (.refl _ _) o) _ _ z));have x:=hid (zMn f.name);clear z;go_enter func90,ntmps90
 go_wp2_with fail
 refine(B.out _).mono ?_;rintro e C ⟨rfl,m⟩;have q:Below w.heap.size w C:=(zF w _).trans (m.mono (by simp));have g:=hid (show zIA f=if zBO f=false\/(f.op=3/\(f.num<0\/1000000<f.num\/zGX f.name=true))then 1 else 0 from rfl);have n:=(Blk.new w 40 #[.int .i64 f.op,.string f.name,.int .i64 f.cmp,.int .i64 f.num,.slice A f.kids.length cap]).below m (by simp);have F:=n.at0;have G:=n.at1;have H:=n.at3;have I:=n.lt;have a:=hid q;clear n m q B;generalize zBO f=D at*;have k:∀b,zIA f=b->∀w',Below w.heap.size w w'->(Ending.returned (.int .i64 b)= .returned (.int .i64 (zIA f))/\Below w.heap.size w w'):=λb e w' h=>⟨by rw[e],h⟩
 have c:=hid k;clear k;cases D
 ·have d:=hid (c.out 1 (by rw[g.out];simp));clear c g;dsimp only;go_wp2;go_ret;exact d.out _ a.out
 ·dsimp only;by_cases i:f.op=3
  ·(have E:(f.op==(3:Int))=true:=by simp[i]);by_cases t:f.num<0
   ·have d:=hid (c.out 1 (by rw[g.out];simp[i,t]));clear c g i;go_wp2;go_ret;exact d.out _ a.out
   ·by_cases u:1000000<f.num
    ·have d:=hid (c.out 1 (by rw[g.out];simp[i,u]));clear c g i;go_wp2;go_ret;exact d.out _ a.out
    ·have j:=hid (show zIA f=if zGX f.name=true then 1 else 0 by rw[g.out];simp[i,t,u]);clear g i;(go_wp2_with fail);refine(x.out C).mono ?_;rintro e J ⟨rfl,y⟩;have s:=a.out.trans (y.mono a.out.size);cases v:zGX f.name
     ·have d:=hid (c.out 0 (by rw[j.out,v];simp));clear c j v;dsimp only;go_wp2;go_ret;exact d.out _ s
     ·have d:=hid (c.out 1 (by rw[j.out,v];simp));clear c j v;dsimp only;go_wp2;go_ret;exact d.out _ s
  ·(have E:(f.op==(3:Int))=false:=by simp[i]);have d:=hid (c.out 0 (by rw[g.out];simp[i]));clear c g i;go_wp2;go_ret;exact d.out _ a.out
theorem Tryz.eStrT:zB0 prog 9 1 16:=zBp (z:= .string ⟨#[]⟩) (by kernel_rfl) rfl (by decide)
def zFp(f:Fm):Prop:=f.op=3/\0<=f.cmp/\f.cmp<=6/\f.name.size<=1000
theorem zMZ:∀{l:List Fm},(∀k∈l,zFp k)->zHL 5 l=l.map zBM
 |[],_=>by simp[zHL]
 |k::r,h=>by
  have a:=(h k (by simp)).1;rw[zHL,if_neg (by simp[zUk,a]),List.map_cons,zMZ (λx b=>h x (by simp[b]))]
theorem zNp{nm:ByteArray}{c n:Int}{l:List Fm}(h:∀k∈l,zFp k):zBM (.mk 5 nm c n l)=zDQ (l.map zBM) [32,97,110,100,32]:=by
 rw[zBM,if_neg (by decide),if_neg (by decide),if_neg (by decide),if_neg (by decide),if_pos rfl,zMZ h]
theorem zKC(h:zFp f)(g:I64 f.num):(zBM f).size <=1100:=by
 obtain⟨op,b,c,n,kids⟩:=f;obtain⟨a,i,j,d⟩:=h;have a:op=3:=a;subst a;have k:=zMX c;have m:=Lib.itoa_length_le n g.1 g.2;have d:b.size<=1000:=d;have e:zBM (.mk 3 b c n kids)=b++⟨#[32]⟩++zJm.getD c.toNat za++⟨#[32]⟩++zHK n:=by unfold zBM;rfl
 rw[e];simp only[ByteArray.size_append];have o:(zHK n).size <=30:=by show(Lib.itoa n).toArray.size <=30;simp;omega
 have q:(⟨#[32]⟩:ByteArray).size =1:=rfl;omega
theorem zIO{m:Nat}{sep:List UInt8}(c:sep.length<=8):∀l:List (List UInt8),(∀x∈l,x.length<=m)->(Lib.joinTail sep l).length <=l.length*(m+8)
 |[],_=>by simp[Lib.joinTail]
 |a::r,h=>by
  have f:=h a (by simp);have b:=zIO c r (λx d=>h x (by simp[d]));have e:Lib.joinTail sep (a::r)=sep++a++Lib.joinTail sep r:=by simp[Lib.joinTail]
  rw[e];simp only[List.length_append,List.length_cons,Nat.add_mul]at b⊢;omega
theorem zGg{m:Nat}{sep:List UInt8}(l:List (List UInt8))(c:sep.length<=8)(h:∀x∈l,x.length<=m):(Lib.join l sep).length <=l.length*(m+8):=by
 cases l with
 |nil=>simp[Lib.join_nil]
 |cons a r=>
  have e:=h a (by simp);have b:=zIO c r (λx d=>h x (by simp[d]));rw[Lib.join_cons];simp only[List.length_append,List.length_cons,Nat.add_mul]at b⊢;omega
theorem zQL(Z:zE)(nm:ByteArray)(H K:Int)(kids:List Fm)(cs:List Value)(w:World)(hf:FmR Z w (.mk 5 nm H K kids) cs)(hz:∀b,Z b->b<w.heap.size)(hk:∀k∈kids,zFp k)(aq:kids≠[])(a0:kids.length<=200)(hI:∀k∈kids,I64 k.num)(I:zAD w.heap.size w):
  Calls prog 92 #[.agg cs.toArray] w λe w'=>e= .returned (.string (zBM (.mk 5 nm H K kids)))/\Below w.heap.size w w':=by
 unfold FmR at hf;obtain⟨ar,_,a5,a8,A,cap,rfl,az,_,a6,z⟩:=hf;have ag:=hid z;have ai:=hid (zNp (nm:=nm) (c:=H) (n:=K) hk);have HK:=hid hk;have X:=hid I;have HZ:=hid hz
 have af:=hid (show(Lib.join ((kids.map zBM).map (·.data.toList)) [32,97,110,100,32]).length <=140737488355328 from by
  refine Nat.le_trans (zGg (m:=1200) (sep:=[32,97,110,100,32]) _ (by decide) λx J=> ?_) ?_
  ·obtain⟨y,hy,rfl⟩:=List.mem_map.1 J;obtain⟨f,hf,rfl⟩:=List.mem_map.1 hy;have:=zKC (hk f hf) (hI f hf);(have e:∀b:ByteArray,b.data.toList.length=b.size:=λb=>by rw[Array.length_toList];rfl);rw[e];omega
  ·rw[List.length_map,List.length_map];omega)
 have Y:=hid (show zBM (.mk 5 nm H K kids)=⟨(Lib.join (List.map ((λx=>x.data.toList)∘zBM) kids) [32,97,110,100,32]).toArray⟩ from by rw[ai.out];unfold zDQ;rw[List.map_map]);clear z hk I hz ar;go_enter func92,ntmps92
 go_wp2_with fail
 have M:=hid (Blk.new w 40 #[.int .i64 5,.string nm,.int .i64 H,.int .i64 K,.slice A kids.length cap]);have t:=hid (zF w (.cells #[.int .i64 5,.string nm,.int .i64 H,.int .i64 K,.slice A kids.length cap] 40));have a3:(w.alloc (.cells #[.int .i64 5,.string nm,.int .i64 H,.int .i64 K,.slice A kids.length cap] 40)).heap.size =w.heap.size+1:=by simp
 generalize w.alloc (.cells #[.int .i64 5,.string nm,.int .i64 H,.int .i64 K,.slice A kids.length cap] 40)=w1 at*;go_loopw[3,31] (λv i wr=>∃k:Nat,k<=kids.length/\i= .int .i64 k/\wr.ownsRow (w.heap.size+1) 9 1 v k ((kids.take k).map λf=> .string (zBM f))/\Below w1.heap.size w1 wr) (λ_ i _=>kids.length-(intOf i).toNat);case atStart=>exact⟨0,Nat.zero_le _,rfl,World.ownsRow_nil _ _ _ _,Below.refl _ _⟩
 case round=>
  obtain⟨k,hk,rfl,a,s⟩:=hrel;obtain⟨oA,L,rfl,-,-,-⟩:=Row.of_own a (by decide);have u:Below w.heap.size w wr:=t.out.trans (s.mono t.out.size);by_cases C:k<kids.length
  ·have z:=zi.keep (.of_below_lt u (λb _ hz=>HZ.out b hz)) _ _ ag.out;obtain⟨b',bb,cs,rfl,ba,O,B⟩:=z.at_ C;have ap:=HK.out kids[k] (List.getElem_mem C);have a7:=hI kids[k] (List.getElem_mem C);have ah:=hid (show(kids.take (k+1)).map (λf=>Value.string (zBM f))=(kids.take k).map (λf=>Value.string (zBM f))++[.string (zBM kids[k])] from by rw[List.take_succ_eq_append_getElem C,List.map_append];rfl);generalize kids[k]=kd at*;obtain⟨aw,o,D,kn,T⟩:=kd;obtain⟨av,Q,R,ad⟩:=ap;obtain rfl:aw=3:=av;have Q:0<=D:=Q;have R:D<=6:=R;have ad:o.size<=1000:=ad;have aj:=FmR.form B;obtain⟨KA,d,rfl⟩:=aj;simp only[Fm.op,Fm.name,Fm.cmp,Fm.num,Fm.kids]at O B;obtain⟨c0,c1,c2,c3,c4⟩:=zx O;have a4:=lt_of_cell c0;(have q1:(k:Int)<(kids.length:Int):=by omega);have V:=hid (FmR.keep ((zA.refl Z wr).alloc (.cells #[.int .i64 3,.string o,.int .i64 D,.int .i64 kn,.slice KA T.length d] 40)) _ _ B);have G:=hid a;have U:=hid s;have ae:=hid u;have aa:=hid (X.out.on (u.alloc u.size (.cells #[.int .i64 3,.string o,.int .i64 D,.int .i64 kn,.slice KA T.length d] 40)));have au:=s.size;have a2:=t.out.size;have ay:=M.out.lt;clear z O B a s u;(go_wp2_with fail);refine(zNo Z o D kn T _ _ V.out Q R (by omega) (aa.out.mono (by simp;omega))).mono ?_;rintro e w3 ⟨rfl,q⟩;generalize zBM (.mk 3 o D kn T)=tx at*;have N:=(Blk.new wr 40 #[.int .i64 3,.string o,.int .i64 D,.int .i64 kn,.slice KA T.length d]).below q (by simp);have F:=hid (own_below (own_below G.out (zF wr (.cells #[.int .i64 3,.string o,.int .i64 D,.int .i64 kn,.slice KA T.length d] 40))) q);have E:=hid ((U.out.alloc au (.cells #[.int .i64 3,.string o,.int .i64 D,.int .i64 kn,.slice KA T.length d] 40)).trans (q.mono (by simp;omega)));have p0:=N.at0;have pl:=N.lt;(have a9:wr.heap.size+1<=w3.heap.size:=by have:=q.size;simpa using this);clear q N G U ae V aa c0 c1 c2 c3 c4;go_wp2_with(at_builtin;refine z6 rfl (.tmp 53) (.tmp 55) _ rfl underlying116 Tryz.eStrT rfl (F.out.alloc _) rfl (news:=[.string tx]) rfl (one_cell (by simp)) (by simp[Value.oneCell']) (by unfold maxLen;omega) (by omega) (by simp;omega) ?_;intro v5 w5 P ak ax);have ab:Below w1.heap.size w1 w5:=ze (E.out.alloc (E.out.size) _) (F.out.alloc _) ak (by simp;omega) (by omega);go_roundw;(case rel=>exact⟨k+1,by omega,by go_num,by rw[ah.out];exact P,ab⟩);case measure=>simp[intOf];omega
  ·(obtain rfl:k=kids.length:=by omega);have a1:0<kids.length:=List.length_pos_iff.2 aq;obtain⟨n',ac⟩:∃n',kids.length=n'+1:=⟨kids.length-1,by omega⟩;have hq:=M.out.below s M.out.lt;have p0:=hq.at0;have pl:=hq.lt
   have HC:=hid (λ(g:Nat)(e:oA=some ⟨g,0,none⟩)(j:Nat)(x:ByteArray)(J:(kids.map zBM)[j]? =some x)=>show wr.cell? ⟨g,0+j,none⟩=some (.string x) from by
    subst e;rw[Nat.zero_add];refine zE5 a ?_;rw[List.take_length];simp only[List.getElem?_map]at J⊢
    cases h:kids[j]? with
    |none=>rw[h]at J;cases J
    |some y=>rw[h]at J;simp only[Option.map_some,Option.some.injEq]at J⊢;rw[J])
   have W:=hid (show kids.length<=L from by obtain⟨A',c',e,h1,_⟩:=Row.of_own a (by decide);injection e with e1 e2 e3;omega)
   obtain⟨g,al,ao⟩:∃g,oA=some ⟨g,0,none⟩/\g<wr.heap.size:=by
    have h2:=a;rw[ac]at h2;obtain⟨g,c',e⟩:=zAm h2;injection e with e1 e2 e3;exact⟨g,e1,(a.lt g (by rw[e1];rfl)).2⟩
   subst al;have HJ:=hid (Tryz.strings_Join g 0 L (kids.map zBM) ⟨#[32,97,110,100,32]⟩ wr (HC.out g rfl) ao (by rw[List.length_map];omega) (by rw[List.length_map];exact W.out) af.out);rw[List.length_map]at HJ;clear a ac HC W;(go_wp2_with fail);refine HJ.out.mono ?_;rintro e w3 ⟨rfl,q⟩;(go_wp2_with fail);go_ret;exact⟨by rw[Y.out];rfl,t.out.trans ((s.trans (q.mono s.size)).mono t.out.size)⟩
def TxF(f:Fm):Prop:=(zFp f/\I64 f.num)\/(f.op=5/\(∀k∈f.kids,zFp k/\I64 k.num)/\f.kids≠[]/\f.kids.length<=200)
theorem zU2(Z:zE)(f:Fm)(cs:List Value)(w:World)(i:FmR Z w f cs)(m:∀b,Z b->b<w.heap.size)(j:TxF f)(a:zAD w.heap.size w):
  Calls prog 92 #[.agg cs.toArray] w λe w'=>e= .returned (.string (zBM f))/\Below w.heap.size w w':=by
 obtain⟨op,h,c,n,kids⟩:=f;rcases j with⟨⟨h1,h2,h3,d⟩,_⟩|⟨h1,h2,h3,d⟩
 ·obtain rfl:op=3:=h1;have d:h.size<=1000:=d;exact zNo Z h c n kids cs w i h2 h3 (by omega) a
 ·obtain rfl:op=5:=h1;exact zQL Z h c n kids cs w i m (λk g=>(h2 k g).1) h3 d (λk g=>(h2 k g).2) a
theorem zT0(Z:zE)(f:Fm)(cs:List Value)(w:World)(m:FmR Z w f cs)(G:∀b,Z b->b<w.heap.size)(B:TxF f)(z:zG f<=4000000000000000000)(g:zAD w.heap.size w)(F:zA9 f=false)(E:zw zIA f=0):
  Calls prog 54 #[.agg cs.toArray] w λe w'=>e= .returned (.tuple #[.string (zGJ f).1,.int .i64 0])/\Below w.heap.size w w':=by
 obtain⟨A,cap,rfl⟩:=FmR.form m;have Q:∀d w,(callFunc 90 d).run prog w= .ok (.enter 90 d) w:=enters_of func90 (by kernel_rfl) rfl;have n:∀W,w.heap.size<=W->∀b,Z b->b<W:=λW h b R=>Nat.lt_of_lt_of_le (G b R) h
 have D:=hid (λW(h:Below w.heap.size w W)=>zKG Z f _ W (FmR.keep (.of_below h) _ _ m) z (n _ h.size));have O:=hid (λW(h:Below w.heap.size w W)=>zU2 Z f _ W (FmR.keep (.of_below h) _ _ m) (n _ h.size) B ((g.on h).mono h.size));have C:=hid (λW(h:Below w.heap.size w W)=>zNr 90 #[] Q Z zIA W (λx cs P B V=>by rw[Array.append_empty];exact zTZ Z x cs P B) (zG f) f (Nat.le_refl _) _ W (FmR.keep (.of_below h) _ _ m) (.refl _ _));have N:=hid (show(zGJ f).1=zBM f from by unfold zGJ;rw[if_neg (by simp[F,E])]);rw[F]at D;rw[E]at C;clear m g G;go_enter func54,ntmps54
 go_wp2_with fail
 refine(D.out _ (zF w _)).mono ?_;rintro e T ⟨rfl,j⟩;have a:=hid ((Blk.new w 40 #[.int .i64 f.op,.string f.name,.int .i64 f.cmp,.int .i64 f.num,.slice A f.kids.length cap]).below j (by simp));have c:=hid ((zF w (.cells #[.int .i64 f.op,.string f.name,.int .i64 f.cmp,.int .i64 f.num,.slice A f.kids.length cap] 40)).trans (j.mono (by simp)));clear j;obtain⟨H,o,I,q,J,s,K,t,L,u,M⟩:=a.out.c5;go_wp2_with fail
 refine(C.out T c.out).mono ?_;rintro e U ⟨rfl,k⟩;have v:=hid (a.out.below k a.out.lt);have i:=hid (c.out.trans (k.mono c.out.size));clear k a c H I J K L o q s t u M;obtain⟨H,o,I,q,J,s,K,t,L,u,M⟩:=v.out.c5;go_wp2_with fail
 refine(O.out U i.out).mono ?_;rintro e X ⟨rfl,y⟩;go_wp2_with fail
 go_ret2;exact⟨by rw[N.out];rfl,i.out.trans (y.mono i.out.size)⟩
def zC6(ds:List zC):List UInt8:=ds.flatMap λf=>(zFW f).data.toList
theorem zKt:∀(ds:List zC)(b:ByteArray),ds.foldl (λb f=>b++zFW f) b=⟨(b.data.toList++zC6 ds).toArray⟩
 |[],b=>by simp[zC6]
 |f::r,b=>by
  rw[List.foldl_cons,zKt r (b++zFW f)];simp[zC6]
theorem zNq(ds:List zC):zPD ds=⟨(zC6 ds).toArray⟩:=by
 unfold zPD;rw[zKt];simp[za]
theorem zKu{f:zC}(h:f.name.size<=1000)(c:I64 f.lo)(d:I64 f.hi):(Lib.join ((zCC f).map (·.data.toList)) [32]).length <=10000:=by
 have e:∀b:ByteArray,b.data.toList.length=b.size:=λb=>by rw[Array.length_toList];rfl
 have i:=Lib.itoa_length_le f.lo c.1 c.2;have j:=Lib.itoa_length_le f.hi d.1 d.2;have k:(zHK f.lo).size <=30:=by show(Lib.itoa f.lo).toArray.size <=30;simp;omega
 have n:(zHK f.hi).size <=30:=by show(Lib.itoa f.hi).toArray.size <=30;simp;omega
 refine Nat.le_trans (zGg (m:=1000) (sep:=[32]) _ (by decide) λx g=> ?_) ?_
 ·obtain⟨y,a,rfl⟩:=List.mem_map.1 g;rw[e];unfold zCC at a;split at a
  ·simp only[List.mem_cons,List.not_mem_nil,or_false]at a;rcases a with rfl|rfl
   ·exact h
   ·decide
  ·simp only[List.mem_cons,List.not_mem_nil,or_false]at a;rcases a with rfl|rfl|rfl|rfl|rfl
   ·exact h
   ·decide
   ·omega
   ·decide
   ·omega
 ·rw[List.length_map];unfold zCC;split<;>simp
theorem zM0(h:∀f∈ds,f.name.size<=1000/\I64 f.lo/\I64 f.hi):(zC6 ds).length <=ds.length*10002:=by
 induction ds with
 |nil=>simp[zC6]
 |cons f r ih=>
  have a:=h f (by simp);have b:=ih (λx c=>h x (by simp[c]));have d:=zKu a.1 a.2.1 a.2.2
  have e:(zFW f).data.toList.length <=10002:=by
   unfold zFW zDQ;simp only[ByteArray.data_append,Array.toList_append,List.length_append];have:bNl.data.toList.length=2:=rfl;simp only[bSp]at*;omega
  unfold zC6 at b⊢;rw[List.flatMap_cons,List.length_append,List.length_cons,Nat.add_mul];omega
theorem zT1(Z:zE)(v:Value)(ds:List zC)(w:World)(hd:Facts Z w v ds)(hz:∀b,Z b->b<w.heap.size)(hv:zN ds=true)(hn:∀f∈ds,f.name.size<=1000)(hl:ds.length<=60)(aa:zAD w.heap.size w):
  Calls prog 53 #[.agg #[v]] w λe w'=>e= .returned (.string (zFz ds))/\Below w.heap.size w w':=by
 have a5:=hid hd.fit;have HV:=hid (λW(h:Below w.heap.size w W)=>zDB Z v ds W (hd.keep (.of_below h)));rw[hv]at HV;have a2:=hid (show zFz ds=⟨(zC6 ds).toArray⟩ from by unfold zFz;rw[if_pos hv,zNq]);obtain⟨D,dcap,rfl,-⟩:=hd.form;have HD:=hid hd;have ar:=hid aa;have HZ:=hid hz;have HN:=hid (λf(h:f∈ds)=>(show f.name.size<=1000/\I64 f.lo/\I64 f.hi from⟨hn f h,(hd.fit f h).2.2.1,(hd.fit f h).2.2.2⟩));clear hd aa hz hn;go_enter func53,ntmps53
 go_wp2_with fail
 refine(HV.out _ (zF w _)).mono ?_;rintro e w1 ⟨rfl,C⟩;have E:=hid ((Blk.new w 24 #[.slice D ds.length dcap]).below C (by simp));have ab:=hid ((zF w (.cells #[.slice D ds.length dcap] 24)).trans (C.mono (by simp)));clear C HV;have q0:=E.out.at0;have ql:=E.out.lt;go_upto_region 4 with fail
 have A:=hid (show IsB w1.heap.size w1.heap.size [] (w1.alloc (.cells #[.pointer none,.slice none 0 0] 110)) from Lib.IsBuilderF.of (Lib.fresh_isBuilder _ _ _));have aj:=hid (E.out.alloc (.cells #[.pointer none,.slice none 0 0] 110));have ac:=hid (ab.out.alloc ab.out.size (.cells #[.pointer none,.slice none 0 0] 110));have bd:w1.heap.size<(w1.alloc (.cells #[.pointer none,.slice none 0 0] 110)).heap.size :=by simp
 have bc:w.heap.size<w1.heap.size:=E.out.lt;clear E ab q0 ql;generalize w1.alloc (.cells #[.pointer none,.slice none 0 0] 110)=w2 at*;generalize w1.heap.size=B at*;have q0:=aj.out.at0;have ql:=aj.out.lt;go_wp2_with fail
 go_loopw[13] (λi wr=>∃k:Nat,k<=ds.length/\i= .int .i64 k/\IsB B B (Lib.byteCells (zC6 (ds.take k))) wr/\Below B w2 wr) (λi _=>ds.length-(intOf i).toNat);case atStart=>exact⟨0,Nat.zero_le _,rfl,A.out,Below.refl _ _⟩
 case round=>
  obtain⟨k,hk,rfl,af,R⟩:=hrel;clear A q0 ql;have t:Below w.heap.size w wr:=ac.out.trans (R.mono (by omega));have z:=hid R;have a6:=hid t;have A:=hid af;by_cases ai:k<ds.length
  ·obtain⟨b,bg,rfl,Y,c0,c1,c2,c3⟩:=HD.out.at4 ai;replace c0:=brd t c0 Y;replace c1:=brd t c1 Y;replace c2:=brd t c2 Y;replace c3:=brd t c3 Y;have a7:=lt_of_cell c0;have ay:=HN.out ds[k] (List.getElem_mem ai);have a1:=hid (show zC6 (ds.take (k+1))=zC6 (ds.take k)++(zFW ds[k]).data.toList from by unfold zC6;rw[List.take_succ_eq_append_getElem ai,List.flatMap_append];simp only[List.flatMap_cons,List.flatMap_nil,List.append_nil]);have ah:=zM0 (ds:=ds.take k) (λf hf=>HN.out f (List.mem_of_mem_take hf));rw[List.length_take]at ah;(have u:((k:Nat):Int)<(ds.length:Int):=by omega);generalize ds[k]=x at*;have I:=hid ay;clear t R af ay;obtain⟨c,n,m,d⟩:=x;dsimp only at c0 c1 c2 c3;(go_upto_region 8 with fail);have H:=hid ((Blk.new wr 67 #[.string c,.int .i64 n,.int .i64 m,.int .i64 d]).alloc (.cells #[.string c,.string ⟨#[102,108,97,103]⟩] 9));have O:=hid (zBv wr (.cells #[.string c,.int .i64 n,.int .i64 m,.int .i64 d] 67) 9 #[.string c,.string ⟨#[102,108,97,103]⟩]);have ad:Below wr.heap.size wr ((wr.alloc (.cells #[.string c,.int .i64 n,.int .i64 m,.int .i64 d] 67)).alloc (.cells #[.string c,.string ⟨#[102,108,97,103]⟩] 9)):=(zF wr _).alloc (by simp) _;have T:=hid (zDH A.out ad);have q:=hid (z.out.trans (ad.mono (by have:=z.out.size;omega)));(have bf:B<wr.heap.size:=by have:=z.out.size;omega);clear ad A z c0 c1 c2 c3;generalize (wr.alloc (.cells #[.string c,.int .i64 n,.int .i64 m,.int .i64 d] 67)).alloc (.cells #[.string c,.string ⟨#[102,108,97,103]⟩] 9)=o at*;have p1:=H.out.at1;have pl:=H.out.lt;(go_upto_if 22 with fail);go_cut[6] from 20 to 31 (λv wx=>∃g,v= .slice (some ⟨g,0,none⟩) (zCC ⟨c,n,m,d⟩).length (zCC ⟨c,n,m,d⟩).length /\(∀(j:Nat)(y:ByteArray),(zCC ⟨c,n,m,d⟩)[j]? =some y->wx.cell? ⟨g,0+j,none⟩=some (.string y))/\g<wx.heap.size/\Below o.heap.size o wx)
   case first=>
    by_cases u:n=1
    ·(have e1:(n !=(1:Int))=false:=by simp[u]);have HV:=hid (show zCC ⟨c,n,m,d⟩=[c,zKS] from by unfold zCC;rw[if_pos u]);clear u;(go_wp2_with fail);go_meet;rw[HV.out];refine⟨_,rfl,λj y a=> ?_,O.out.lt,Below.refl _ _⟩;rw[Nat.zero_add]
     match j,a with
     |0,a=>injection a with a;subst a;exact O.out.at0
     |1,a=>injection a with a;subst a;exact O.out.at1
    ·(have e1:(n !=(1:Int))=true:=by simp[u]);have HV:=hid (show zCC ⟨c,n,m,d⟩=[c,zGi,zHK m,bTo,zHK d] from by unfold zCC;rw[if_neg u]);have aq:=hid (ar.out.on (ac.out.trans ((q.out).mono (by omega)):Below w.heap.size w o));clear u;go_upto_region 9 with fail
     have HC:=hid (λ(W:World)(hW:Below o.heap.size o W)=>(show W.cell? ⟨wr.heap.size,0,none⟩=some (.string c)/\W.cell? ⟨wr.heap.size,2,none⟩=some (.int .i64 m)/\W.cell? ⟨wr.heap.size,3,none⟩=some (.int .i64 d)/\wr.heap.size<W.heap.size from by
      have h:=H.out.below hW H.out.lt
      exact⟨h.at0,h.at2,h.at3,h.lt⟩))
     (have ba:w.heap.size<=o.heap.size:=by have:=q.out.size;omega);have az:=hid (λW Y=>zEC m W I.out.2.1 (aq.out.on (w':=W) Y));have a0:=hid (λW Y=>zEC d W I.out.2.2 (aq.out.on (w':=W) Y));clear p1 pl;refine zL 9 (λW=>Below o.heap.size o W) (by kernel_rfl) ?_;have P:Below o.heap.size o o.drew:=(Below.refl _ _).drew;have hS:(λW=>Below o.heap.size o W) o.drew:=P;generalize o.drew=x0 at*
     (refine tkQ 0 hS ?_;simp only[nr])
     try simp only[nq]
     (refine tkS 1 ?_ hS ?_ ?_;rotate_left;intro w s;obtain⟨p0,p2,p3,pl⟩:=HC.out _ s;clear s;go_simp;(try with_reducible rfl);simp only[nr])
     try simp only[nq]
     (refine tkQ 2 hS ?_;simp only[nr])
     try simp only[nq]
     (refine tkS 3 ?_ hS ?_ ?_;rotate_left;intro w s;obtain⟨p0,p2,p3,pl⟩:=HC.out _ s;clear s;go_simp;(try with_reducible rfl);simp only[nr])
     try simp only[nq]
     (refine tkQ 5 hS ?_;simp only[nr])
     try simp only[nq]
     (refine tkS 6 ?_ hS ?_ ?_;rotate_left;intro w s;obtain⟨p0,p2,p3,pl⟩:=HC.out _ s;clear s;go_simp;(try with_reducible rfl);simp only[nr])
     (try simp only[nq]);clear hS;refine wS1 4 (λK M=> ?_);(go_wp2_with fail);refine(az.out x0 (P.mono (by omega))).mono ?_;rintro e x1 ⟨rfl,C⟩;have Q:Below o.heap.size o x1:=P.trans (C.mono P.size);refine M _ _ (Or.inr Q) ?_;clear M K C;(try simp only[nq]);refine wS1 7 (λK M=> ?_);(go_wp2_with fail);refine(a0.out x1 (Q.mono (by omega))).mono ?_;rintro e x2 ⟨rfl,av⟩;have L:Below o.heap.size o x2:=Q.trans (av.mono Q.size);refine M _ _ (Or.inr L) ?_;clear M K av;(try simp only[nq]);refine wS1 8 (λK M=> ?_);(go_wp2_with fail);refine M _ _ (Or.inr (L.alloc L.size _)) ?_;clear M K;(try simp only[nq]);refine wS1 9 (λK M=> ?_);(go_wp2_with fail);refine M _ _ (Or.inl rfl) ?_;clear M K;(try simp only[nq]);refine wSd ?_ _;(go_wp2_with fail);go_meet;rw[HV.out];have hX:=Blk.new x2 9 #[.string c,.string ⟨#[110,117,109,98,101,114]⟩,.string (zHK m),.string ⟨#[116,111]⟩,.string (zHK d)];refine⟨_,rfl,λj y a=> ?_,hX.lt,L.alloc L.size _⟩;rw[Nat.zero_add]
     match j,a with
     |0,a=>injection a with a;subst a;exact hX.at0
     |1,a=>injection a with a;subst a;exact hX.at1
     |2,a=>injection a with a;subst a;exact hX.at2
     |3,a=>injection a with a;subst a;exact hX.at3
     |4,a=>injection a with a;subst a;exact hX.at4
   case rest=>
    obtain⟨g,rfl,ax,a3,N⟩:=hcut;(rename World=>w5);have U:=hid (zDH T.out N);have F:=hid (q.out.trans (N.mono (by have:=q.out.size;omega)));have ag:=zKu I.out.1 I.out.2.1 I.out.2.2;(have bb:(zCC ⟨c,n,m,d⟩).length <=5:=by unfold zCC;split<;>simp);have HJ:=hid (Tryz.strings_Join g 0 (zCC ⟨c,n,m,d⟩).length (zCC ⟨c,n,m,d⟩) ⟨#[32]⟩ w5 ax a3 (by omega) (Nat.le_refl _) (Nat.le_trans ag (by decide)));(have a9:(zDQ (zCC ⟨c,n,m,d⟩) bSp).size <=10000:=by show(Lib.join _ _).toArray.size <=_;rw[List.size_toArray];exact ag);have ao:=hid (HJ.out.mono (R':=λe w'=>e= .returned (.string (zDQ (zCC ⟨c,n,m,d⟩) bSp))/\Below w5.heap.size w5 w') λe w' h=>h);(have a8:(zFW ⟨c,n,m,d⟩).size <=10002:=by unfold zFW;rw[ByteArray.size_append];show _+2<=_;omega);(have au:∀W,(Op.stringOp .add (zDQ (zCC ⟨c,n,m,d⟩) bSp) ⟨#[59,10]⟩).run prog W= .ok (.string (zFW ⟨c,n,m,d⟩)) W:=λW=>run_string_add_sum W _ _ (by show _+2<=_;omega));clear ax ag HJ T q H O N;generalize zDQ (zCC ⟨c,n,m,d⟩) bSp=J at*;generalize zFW ⟨c,n,m,d⟩=FX at*;(go_wp2_with fail);refine ao.out.mono ?_;rintro e w6 ⟨rfl,ae⟩;have V:=hid (zDH U.out ae);have G:=hid (F.out.trans (ae.mono (by have:=F.out.size;omega)));clear ae U F ao;(go_wp2_with fail);refine(zDq B B _ FX w6 V.out (by rw[Lib.byteCells_length];omega) (by have:=G.out.size;omega)).mono ?_;rintro e w7 ⟨rfl,X,aw,a4⟩
    have al:=hid (show IsB B B (Lib.byteCells (zC6 (ds.take (k+1)))) w7 from by
     rw[a1.out];refine Or.inr ?_;have e:Lib.byteCells (zC6 (ds.take k)++FX.data.toList)=Lib.byteCells (zC6 (ds.take k))++Lib.strCells FX:=by simp[Lib.byteCells,Lib.strCells]
     rw[e];exact X)
    have ak:=hid (G.out.trans aw);clear X aw a4 V G au;(go_wp2_with fail);go_roundw;(case rel=>exact⟨k+1,by omega,by go_num,al.out,ak.out⟩);case measure=>simp[intOf];omega
  ·(obtain rfl:k=ds.length:=by omega);have ap:=hid (Tryz.Builder_String_any_f B B (zC6 ds) wr (by have:=A.out;rwa[List.take_length]at this) (by have:=z.out.size;omega));clear R t af;(go_wp2_with fail);refine ap.out.mono ?_;rintro e w5 ⟨rfl,-,N⟩;(go_wp2_with fail);go_ret;exact⟨by rw[a2.out];rfl,ac.out.trans ((z.out.trans N).mono (by omega))⟩
def zBr(ls:List zI):List UInt8:=ls.flatMap λl=>(zGe l).data.toList
theorem zKv:∀(ls:List zI)(b:ByteArray),ls.foldl (λb l=>b++zGe l) b=⟨(b.data.toList++zBr ls).toArray⟩
 |[],b=>by simp[zBr]
 |f::r,b=>by
  rw[List.foldl_cons,zKv r (b++zGe f)];simp[zBr]
theorem zHR(b:ByteArray):b.data.toList.length=b.size:=by rw[Array.length_toList];rfl
theorem zU3(h:TxF f):(zBM f).size <=300000:=by
 rcases h with⟨h1,a⟩|⟨h1,a,h3,b⟩
 ·have:=zKC h1 a;omega
 ·obtain⟨op,j,c,n,kids⟩:=f;obtain rfl:op=5:=h1;have a:∀k∈kids,zFp k/\I64 k.num:=a;rw[zNp (λk e=>(a k e).1)];show(Lib.join _ _).toArray.size <=_;rw[List.size_toArray];refine Nat.le_trans (zGg (m:=1200) (sep:=[32,97,110,100,32]) _ (by decide) λx g=> ?_) ?_
  ·obtain⟨y,i,rfl⟩:=List.mem_map.1 g;obtain⟨f,d,rfl⟩:=List.mem_map.1 i;have:=zKC (a f d).1 (a f d).2;rw[zHR];omega
  ·have b:kids.length<=200:=b;rw[List.length_map,List.length_map];omega
def LnX(l:zI):Prop:=TxF l.when_/\zA9 l.when_=false/\zw zIA l.when_=0/\l.cls.size<=1000
theorem zT2(a:zA9 f=false)(b:zw zIA f=0):(zGJ f).1=zBM f:=by unfold zGJ;rw[if_neg (by simp[a,b])]
theorem zKw(h:LnX l):(Lib.join ((zDY l).map (·.data.toList)) [32]).length <=2000000:=by
 refine Nat.le_trans (zGg (m:=300000) (sep:=[32]) _ (by decide) λx c=> ?_) ?_
 ·obtain⟨y,a,rfl⟩:=List.mem_map.1 c;rw[zHR];have b:=zU3 h.1;rw[<-zT2 h.2.1 h.2.2.1]at b;have d:=h.2.2.2;unfold zDY at a;simp only[List.mem_append,List.mem_cons,List.not_mem_nil,or_false]at a;rcases a with((rfl|rfl)|a)|rfl|rfl
  ·decide
  ·omega
  ·split at a
   ·simp only[List.mem_cons,List.not_mem_nil,or_false]at a;subst a;decide
   ·cases a
  ·decide
  ·exact b
 ·rw[List.length_map];unfold zDY;split<;>simp
theorem zM1(h:LnX l):(zDQ (zDY l) bSp).size <=2000000/\(zGe l).size <=2000002:=by
 have a:=zKw h;have b:(zDQ (zDY l) bSp).size <=2000000:=by show(Lib.join _ _).toArray.size <=_;rw[List.size_toArray];exact a
 refine⟨b,?_⟩;unfold zGe;rw[ByteArray.size_append];show _+2<=_;omega
theorem zM2{ls:List zI}(h:∀l∈ls,LnX l):(zBr ls).length <=ls.length*2000002:=by
 induction ls with
 |nil=>simp[zBr]
 |cons f r ih=>
  have c:=(zM1 (h f (by simp))).2;have a:=ih (λx b=>h x (by simp[b]));unfold zBr at a⊢;rw[List.flatMap_cons,List.length_append,List.length_cons,Nat.add_mul,zHR];omega
def zDR(ds:List zC):ByteArray:=zUl++zFz ds++zUm
theorem zSI(b:zN ds=true)(a:∀f∈ds,f.name.size<=1000/\I64 f.lo/\I64 f.hi)(c:ds.length<=60):(zFz ds).size <=700000:=by
 have h:=zM0 a;unfold zFz;rw[if_pos b,zNq];show(zC6 ds).toArray.size <=_;rw[List.size_toArray];omega
theorem zT3(Z:zE)(vd vl:Value)(t:zY)(w:World)(h:zAA Z w vd vl t)(hz:∀b,Z b->b<w.heap.size)(hf:t.fine)(hv:z7 t=true)(hx:∀l∈t.lines,LnX l)(hn:∀f∈t.dom,f.name.size<=1000)(b7:t.dom.length<=60)(dh:t.lines.length<=100)(X:(zJ (zHM t)).2.1=0)(ab:zAD w.heap.size w):
  Calls prog 25 #[.agg #[vd,vl]] w λe w'=>e= .returned (.tuple #[.string (zMJ t).1,.int .i64 (zMJ t).2])/\Below w.heap.size w w':=by
 have cd:zN t.dom=true:=by unfold z7 at hv;simp only[Bool.and_eq_true]at hv;exact hv.1.1.1
 have HV:=hid (λW(hW:Below w.heap.size w W)=>zBX Z vd vl t W (h.keep (.of_below hW)) (λb hb=>Nat.lt_of_lt_of_le (hz b hb) hW.size) hf);rw[hv]at HV;have bu:=hid (λW(hW:Below w.heap.size w W)=>zT1 Z vd t.dom W (h.d.keep (.of_below hW)) (λb hb=>Nat.lt_of_lt_of_le (hz b hb) hW.size) cd hn b7 ((ab.on hW).mono hW.size));have dj:=zSI cd (λf hf=>⟨hn f hf,(h.d.fit f hf).2.2.1,(h.d.fit f hf).2.2.2⟩) b7;have cl:=hid (show zMJ t=(zHM t,0) from by unfold zMJ;rw[if_neg (by rw[hv];simp),if_neg (by simp[X])]);have bg:=hid (show zHM t=⟨((zDR t.dom).data.toList ++zBr t.lines).toArray⟩ from zKv _ _);have HL:=hid (λW=>zEs (zHM t) W);obtain⟨D,dcap,rfl,-⟩:=h.d.form;obtain⟨⟨LA,lcap,rfl,dg,cn,co,a7⟩⟩:=h.l;have cj:=hid a7;have b1:=hid ab;have HZ:=hid hz;have HX:=hid hx;have ci:=hid hf;have b0:=hid X;clear h ab hz hn hx hf a7 X cn co;go_enter func25,ntmps25
 go_wp2_with fail
 refine(HV.out _ (zF w _)).mono ?_;rintro e w1 ⟨rfl,bh⟩;have a8:=hid ((Blk.new w 27 #[.slice D t.dom.length dcap,.slice LA t.lines.length lcap]).below bh (by simp));have bd:=hid ((zF w (.cells #[.slice D t.dom.length dcap,.slice LA t.lines.length lcap] 27)).trans (bh.mono (by simp)));clear bh HV;go_upto_region 4 with fail
 have F:=hid (show IsB w1.heap.size w1.heap.size [] (w1.alloc (.cells #[.pointer none,.slice none 0 0] 110)) from Lib.IsBuilderF.of (Lib.fresh_isBuilder _ _ _));have ac:=hid (a8.out.alloc (.cells #[.pointer none,.slice none 0 0] 110));have bf:=hid (bd.out.alloc bd.out.size (.cells #[.pointer none,.slice none 0 0] 110));have ct:w1.heap.size<(w1.alloc (.cells #[.pointer none,.slice none 0 0] 110)).heap.size :=by simp
 have cr:w.heap.size<w1.heap.size:=a8.out.lt;clear a8 bd;generalize w1.alloc (.cells #[.pointer none,.slice none 0 0] 110)=w2 at*;generalize w1.heap.size=B at*;obtain⟨o0,bp,o1,bq,ol⟩:=ac.out.c2;go_wp2_with fail
 refine(bu.out w2 bf.out).mono ?_;rintro e w3 ⟨rfl,V⟩;have de:(zDR t.dom).size <=700010:=by unfold zDR;rw[ByteArray.size_append,ByteArray.size_append];show 8+_+2<=_;omega
 obtain⟨u1,bn,e1⟩:∃u:ByteArray,u=⟨#[102,97,99,116,115,32,123,10]⟩++zFz t.dom/\∀W,(Op.stringOp .add ⟨#[102,97,99,116,115,32,123,10]⟩ (zFz t.dom)).run prog W= .ok (.string u) W:=⟨_,rfl,λW=>run_string_add_sum W _ _ (by show 8+_<=_;omega)⟩
 have e2:∀W,(Op.stringOp .add u1 ⟨#[125,10]⟩).run prog W= .ok (.string (zDR t.dom)) W:=λW=>by
  rw[show zDR t.dom=u1++⟨#[125,10]⟩ from by rw[bn];rfl];refine run_string_add_sum W _ _ ?_;rw[bn,ByteArray.size_append];show 8+_+2<=_;omega
 have av:=hid (zDH F.out V);have bs:=hid (ac.out.below V ac.out.lt);have b2:=hid (bf.out.trans (V.mono bf.out.size));have N:=hid ((Below.refl B w2).trans (V.mono (by omega)));clear V F ac bu o0 o1 bp bq ol bn;generalize zFz t.dom=TD at*;go_wp2_with fail
 refine(zDq B B [] (zDR t.dom) w3 av.out (by simp;omega) (by have:=N.out.size;omega)).mono ?_;rintro e w4 ⟨rfl,a3,ag,cp⟩
 have aw:=hid (show IsB B B (Lib.byteCells ((zDR t.dom).data.toList ++zBr (t.lines.take 0))) w4 from by
  refine Or.inr ?_;have e:Lib.byteCells ((zDR t.dom).data.toList ++zBr (t.lines.take 0))=[]++Lib.strCells (zDR t.dom):=by simp[zBr,Lib.byteCells,Lib.strCells]
  rw[e];exact a3)
 have bt:=hid (N.out.trans ag);have ch:=hid (bs.out.below ag cr);have b3:=hid (b2.out.trans (ag.mono (by omega)));clear a3 ag cp av bs b2 N e1 e2;obtain⟨o0,bp,o1,bq,ol⟩:=ch.out.c2;go_wp2_with fail
 go_loopw[25] (λi wr=>∃k:Nat,k<=t.lines.length/\i= .int .i64 k/\IsB B B (Lib.byteCells ((zDR t.dom).data.toList ++zBr (t.lines.take k))) wr/\Below B w4 wr) (λi _=>t.lines.length-(intOf i).toNat);case atStart=>exact⟨0,Nat.zero_le _,rfl,aw.out,Below.refl _ _⟩
 case round=>
  obtain⟨k,hk,rfl,bk,ah⟩:=hrel;clear aw o0 o1 bp bq ol;have ai:Below w.heap.size w wr:=b3.out.trans (ah.mono (by omega));have dk:B<w4.heap.size:=Nat.lt_of_lt_of_le ct bt.out.size;have K:=hid ah;have bb:=hid ai;have F:=hid bk;by_cases ak:k<t.lines.length
  ·obtain⟨b,cu,cs,rfl,cf,bi,cb⟩:=cj.out.at_ ak;have ca:=HZ.out b cf;have ce:=HX.out t.lines[k] (List.getElem_mem ak);have b8:=ci.out t.lines[k] (List.getElem_mem ak);have ck:=hid (show zBr (t.lines.take (k+1))=zBr (t.lines.take k)++(zGe t.lines[k]).data.toList from by unfold zBr;rw[List.take_succ_eq_append_getElem ak,List.flatMap_append];simp only[List.flatMap_cons,List.flatMap_nil,List.append_nil]);have bl:=zM2 (ls:=t.lines.take k) (λl hl=>HX.out l (List.mem_of_mem_take hl));rw[List.length_take]at bl;(have df:((k:Nat):Int)<(t.lines.length:Int):=by omega);generalize t.lines[k]=x at*;obtain⟨f,a,g⟩:=x;obtain⟨FA,q,rfl,bj⟩:=cb.form;dsimp only at bi bj b8;(have hc:∀(j:Nat)(u:Value),[Value.int .i64 f.op,.string f.name,.int .i64 f.cmp,.int .i64 f.num,.slice FA f.kids.length q,.string a,.bool g][j]? =some u->wr.cell? ⟨b,cu+k*7+j,none⟩=some u:=λj u hu=>(ai.cell (p:=⟨b,_,none⟩) ca).trans (bi j u hu));have c0:=hc 0 _ rfl;have c1:=hc 1 _ rfl;have c2:=hc 2 _ rfl;have c3:=hc 3 _ rfl;have c4:=hc 4 _ rfl;have c5:=hc 5 _ rfl;have c6:=hc 6 _ rfl;simp only[Nat.add_zero]at c0;have dc:=lt_of_cell c0;have bv:=hid bj;have R:=hid ce;clear bi hc cb bj ai ah bk ce;(go_upto_region 9 with fail);have ad:=hid ((Blk.new wr 42 #[.int .i64 f.op,.string f.name,.int .i64 f.cmp,.int .i64 f.num,.slice FA f.kids.length q,.string a,.bool g]).alloc (.cells #[.string ⟨#[99,108,97,115,115]⟩,.string a] 9))
   have ae:=hid (show((wr.alloc (.cells #[.int .i64 f.op,.string f.name,.int .i64 f.cmp,.int .i64 f.num,.slice FA f.kids.length q,.string a,.bool g] 42)).alloc (.cells #[.string ⟨#[99,108,97,115,115]⟩,.string a] 9)).ownsRow (wr.heap.size+1) 9 1 (.slice (some ⟨wr.heap.size+1,0,none⟩) 2 2) 2 [.string ⟨#[99,108,97,115,115]⟩,.string a] from
    ⟨by simp,.inr ⟨wr.heap.size+1,2,_,rfl,by omega,by have:=heap_alloc_new (wr.alloc (.cells #[.int .i64 f.op,.string f.name,.int .i64 f.cmp,.int .i64 f.num,.slice FA f.kids.length q,.string a,.bool g] 42)) (.cells #[.string ⟨#[99,108,97,115,115]⟩,.string a] 9);rwa[World.size_alloc]at this,Nat.le_refl _,by simp[maxLen],by simp,by simp⟩⟩)
   have G:Below wr.heap.size wr ((wr.alloc (.cells #[.int .i64 f.op,.string f.name,.int .i64 f.cmp,.int .i64 f.num,.slice FA f.kids.length q,.string a,.bool g] 42)).alloc (.cells #[.string ⟨#[99,108,97,115,115]⟩,.string a] 9)):=(zF wr _).alloc (by simp) _;have al:=hid G;have z:=hid (K.out.trans (G.mono (by have:=K.out.size;omega)));have aq:=hid (bb.out.trans (G.mono bb.out.size));(have dq:B<wr.heap.size:=by have:=K.out.size;omega);(have dl:wr.heap.size+1<((wr.alloc (.cells #[.int .i64 f.op,.string f.name,.int .i64 f.cmp,.int .i64 f.num,.slice FA f.kids.length q,.string a,.bool g] 42)).alloc (.cells #[.string ⟨#[99,108,97,115,115]⟩,.string a] 9)).heap.size :=by simp);clear G K bb c0 c1 c2 c3 c4 c5 c6;generalize (wr.alloc (.cells #[.int .i64 f.op,.string f.name,.int .i64 f.cmp,.int .i64 f.num,.slice FA f.kids.length q,.string a,.bool g] 42)).alloc (.cells #[.string ⟨#[99,108,97,115,115]⟩,.string a] 9)=w5 at*;generalize af:wr.heap.size=LX at*;have a0:=hid af;clear af;have p6:=ad.out.cell 6;have pl:=ad.out.lt;(go_upto_if 33 with fail);go_cut[7] from 31 to 36 (λv wx=>∃n A c,v= .slice A n c/\n=([zJl,a]++(if g then[zDm]else[])).length /\wx.ownsRow (LX+1) 9 1 (.slice A n c) n (([zJl,a]++(if g then[zDm]else[])).map Value.string)/\Below (LX+1) w5 wx)
   case first=>
    cases g
    ·(go_wp2_with fail);go_meet;exact⟨2,_,_,rfl,rfl,ae.out,Below.refl _ _⟩
    ·go_wp2_with(at_builtin;refine z6 rfl (.tmp 34) (.tmp 35) _ rfl underlying116 Tryz.eStrT rfl (ae.out.alloc _) rfl (news:=[.string ⟨#[99,111,110,116,114,111,108,108,101,100]⟩]) rfl (one_cell (by simp)) (by simp[Value.oneCell']) (by unfold maxLen;omega) (by omega) (by simp;omega) ?_;intro v5 w6 Y cm db;obtain⟨OA,oc,rfl,-⟩:=Row.of_own Y (by decide));go_meet;exact⟨3,OA,oc,rfl,rfl,Y,ze ((Below.refl (LX+1) w5).alloc (by omega) _) (ae.out.alloc _) cm (by simp;omega) (Nat.le_refl _)⟩
   case rest=>
    obtain⟨n,OA,oc,rfl,bm,a6,s⟩:=hcut;(rename World=>w6);have Q:=hid (show(zDY ⟨f,a,g⟩).length =n+2 from by rw[bm];cases g<;>rfl);(have di:n<=3:=by rw[bm];cases g<;>simp);clear bm;have L:=hid (show Below wr.heap.size wr w6 from by rw[a0.out];exact al.out.trans (s.mono (by omega)));have dm:w5.heap.size<=w6.heap.size:=s.size;have az:=hid (ad.out.below s (by omega));have C:=hid (z.out.trans (s.mono (by omega)));have ar:=hid (aq.out.trans (s.mono (by omega)));have au:=hid (FmR.keep (.of_below_lt ar.out (λb _ hb=>HZ.out b hb)) _ _ bv.out);have a1:=hid a6;clear a6 s al ad z aq bv ae p6 pl;have m:=az.out;have p0:=m.at0;have cv:=m.frozen 0;have p1:=m.at1;have cw:=m.frozen 1;have p2:=m.at2;have cx:=m.frozen 2;have p3:=m.at3;have cy:=m.frozen 3;have p4:=m.at4;have cz:=m.frozen 4;have pl:=m.lt;clear m;(have cg:w.heap.size<=w6.heap.size:=by omega);have bw:=hid (zT0 Z f _ w6 au.out (λb hb=>Nat.lt_of_lt_of_le (HZ.out b hb) cg) R.out.1 b8 ((b1.out.on ar.out).mono cg) R.out.2.1 R.out.2.2.1);(go_wp2_with fail);refine bw.out.mono ?_;rintro e w7 ⟨rfl,H⟩;have bo:=zM1 R.out;have b9:=zKw R.out;have b4:=hid (show([zJl,a]++(if g then[zDm]else[])).map Value.string++[Value.string ⟨#[119,104,101,110]⟩,.string (zGJ f).1]=(zDY ⟨f,a,g⟩).map Value.string from by unfold zDY;cases g<;>rfl);have M:=hid (L.out.trans (H.mono L.out.size));have I:=hid (own_below a1.out H);have ao:=hid (C.out.trans (H.mono (by omega)));have dn:w6.heap.size<=w7.heap.size:=H.size;clear H L az C au a1 bw p0 p1 p2 p3 p4 cv cw cx cy cz pl;generalize (zGJ f).1=tw at*;go_wp2_with(at_builtin;refine z6 rfl (.tmp 43) (.tmp 45) _ rfl underlying116 Tryz.eStrT rfl (I.out.alloc _) rfl (news:=[.string ⟨#[119,104,101,110]⟩,.string tw]) rfl (zCn (Blk.new _ _ _)) (by simp[Value.oneCell']) (by unfold maxLen;omega) (by omega) (by simp;omega) ?_;intro v9 w9 o aj b6;obtain⟨g9,c9,rfl⟩:=zAm o);have af:=a0.out;(have dp:w7.heap.size+1<=w9.heap.size:=by have:=aj.size;simpa using this);have a9:=hid (ze (M.out.alloc (M.out.size) _) (I.out.alloc _) aj (by simp;omega) (by omega));have ap:=hid (ze (ao.out.alloc (by omega) _) (I.out.alloc _) aj (by simp;omega) (by omega));rw[b4.out]at o;have HJ:=hid (Tryz.strings_Join g9 0 c9 (zDY ⟨f,a,g⟩) ⟨#[32]⟩ w9 (λj y hy=>by rw[Nat.zero_add];exact zE5 o (by rw[List.getElem?_map,hy];rfl)) (o.lt g9 rfl).2 (by rw[Q.out];omega) (by rw[Q.out];obtain⟨A',c',e,h1,_⟩:=Row.of_own o (by decide);injection e with e1 e2 e3;omega) (Nat.le_trans b9 (by decide)));rw[Q.out]at HJ;have bz:=hid (HJ.out.mono (R':=λe w'=>e= .returned (.string (zDQ (zDY ⟨f,a,g⟩) bSp))/\Below w9.heap.size w9 w') λe w' h=>h);(have b5:∀W,(Op.stringOp .add (zDQ (zDY ⟨f,a,g⟩) bSp) ⟨#[59,10]⟩).run prog W= .ok (.string (zGe ⟨f,a,g⟩)) W:=λW=>run_string_add_sum W _ _ (by have:=bo.1;show _+2<=_;omega));have dd:=bo.2;clear o aj b6 HJ M I ao b9 bo b4 af;generalize zDQ (zDY ⟨f,a,g⟩) bSp=J at*;generalize zGe ⟨f,a,g⟩=FX at*;refine bz.out.mono ?_;rintro e c8 ⟨rfl,U⟩;have br:=hid (a9.out.trans (U.mono a9.out.size));have O:=hid (zDH F.out br.out);have E:=hid (ap.out.trans (U.mono (by omega)));clear U a9 ap bz F;(go_wp2_with fail);refine(zDq B B _ FX c8 O.out (by rw[Lib.byteCells_length,List.length_append,zHR];omega) (by have:=E.out.size;omega)).mono ?_;rintro e da ⟨rfl,T,a4,cc⟩
    have bc:=hid (show IsB B B (Lib.byteCells ((zDR t.dom).data.toList ++zBr (t.lines.take (k+1)))) da from by
     rw[ck.out];refine Or.inr ?_;have e:Lib.byteCells ((zDR t.dom).data.toList ++(zBr (t.lines.take k)++FX.data.toList))=Lib.byteCells ((zDR t.dom).data.toList ++zBr (t.lines.take k))++Lib.strCells FX:=by simp[Lib.byteCells,Lib.strCells]
     rw[e];exact T)
    have ba:=hid (E.out.trans a4);clear T a4 cc O E b5;(go_wp2_with fail);go_roundw;(case rel=>exact⟨k+1,by omega,by go_num,bc.out,ba.out⟩);case measure=>simp[intOf];omega
  ·(obtain rfl:k=t.lines.length:=by omega);have bx:=hid (show IsB B B (Lib.byteCells ((zDR t.dom).data.toList ++zBr t.lines)) wr from by have:=F.out;rwa[List.take_length]at this);have ca:=zM2 HX.out;have P:=hid (Tryz.Builder_String_any_f B B ((zDR t.dom).data.toList ++zBr t.lines) wr bx.out (by have:=K.out.size;omega));rw[<-bg.out]at P
   have cq:(zHM t).size <=140737488355328:=by
    rw[bg.out];show(List.toArray _).size <=_;rw[List.size_toArray,List.length_append,zHR];omega
   clear ah ai bk bx F;(go_wp2_with fail);refine P.out.mono ?_;rintro e w5 ⟨rfl,a5,G⟩;have ax:=hid a5;have z:=hid (K.out.trans G);clear a5 G P;(go_wp2_with fail);refine(HL.out w5 cq).mono ?_;rintro e w6 ⟨v6,rfl,aa,s⟩;obtain⟨TA,tc,rfl,-⟩:=zAt.of_own aa;have ay:=hid (zDH ax.out s);have C:=hid (z.out.trans (s.mono (by have:=z.out.size;omega)));have a2:=hid (Tryz.Builder_String_any_f B B ((zDR t.dom).data.toList ++zBr t.lines) w6 ay.out (by have:=C.out.size;omega));rw[<-bg.out]at a2;rw[b0.out];clear aa s ax z ay;(go_wp2_with fail);refine a2.out.mono ?_;rintro e w7 ⟨rfl,-,H⟩;(go_wp2_with fail);go_ret2;exact⟨by rw[cl.out];rfl,b3.out.trans ((C.out.trans H).mono (by omega))⟩
theorem zQa{P:Program}{c:Code}{Q:Exit->Act->World->Prop}{t t':Array Value}{ds:List Deferred}(h:t=t')(a:Code.wp P c Q ⟨t',ds⟩ w):Code.wp P c Q ⟨t,ds⟩ w:=h▸a
theorem zQM(d c a:Nat)(w:World):
  CallsD prog 47 #[.pointer (some ⟨d,0,none⟩),.pointer (some ⟨c,0,none⟩),.pointer (some ⟨a,0,none⟩)] .returning w λe h w'=>e= .returned (.tuple #[])/\h= .returning /\Below w.heap.size w w':=by
 have b:∀w:World,(Instr.typeAssert .nilIface 20 96 true).run prog w= .ok (.tuple #[.agg #[.int .i64 0,.int .i64 0],.bool false]) w:=λ_=>by kernel_rfl
 refine callsD_of_wpS func47 rfl λf i g=> ?_
 apply wpS_seq;apply wpS_region;simp[wpOpsS,go_sem,recoverD,g,b,ntmps47,Exit.thenS];refine wpS_of_wp ?_;refine zQa (t':=#[.pointer (some ⟨d,0,none⟩),.pointer (some ⟨c,0,none⟩),.pointer (some ⟨a,0,none⟩),.pointer (some ⟨w.heap.size,0,none⟩),.bool false,.tuple #[.agg #[.int .i64 0,.int .i64 0],.bool false],.nilIface,.tuple #[.agg #[.int .i64 0,.int .i64 0],.bool false],.agg #[.int .i64 0,.int .i64 0],.bool false,undef,undef,undef,undef,undef,undef]) (by kernel_rfl) ?_;go_wp2_with fail
 cases f;simp_all [bodyPostS,results,results47];exact zF _ _
theorem zSJ(d i a:Nat)(f:Flt)(v0 v1:Value)(L x2:Int)(w:World)(X:Blk w d 27 #[v0,v1])(he:Blk w i 32 #[.int .i64 L])(U:Blk w a 3 #[.int .i64 x2])(h1:d≠i)(h2:d≠a)(h3:i≠a):
  CallsD prog 47 #[.pointer (some ⟨d,0,none⟩),.pointer (some ⟨i,0,none⟩),.pointer (some ⟨a,0,none⟩)] (.panicking [{v:=zB1 96 f,recovered:=false}]) w λe u' w'=>e= .returned (.tuple #[])/\u'= .panicking [{v:=zB1 96 f,recovered:=true}]/\
   Blk w' d 27 #[.slice none 0 0,.slice none 0 0]/\Blk w' i 32 #[.int .i64 f.1]/\Blk w' a 3 #[.int .i64 f.2]/\zA (λc=>c≠d/\c≠i/\c≠a) w w':=by
 obtain⟨g,b⟩:=f;unfold zB1;dsimp only;have aa:∀w:World,(Instr.typeAssert (.iface 96 (.agg #[.int .i64 g,.int .i64 b])) 20 96 true).run prog w= .ok (.tuple #[.agg #[.int .i64 g,.int .i64 b],.bool true]) w:=λ_=>by kernel_rfl
 refine callsD_of_wpS func47 rfl λc₀ cs hu=> ?_
 apply wpS_seq;apply wpS_region;simp[wpOpsS,go_sem,recoverD,hu,aa,ntmps47,Exit.thenS];refine wpS_of_wp ?_;refine zQa (t':=#[.pointer (some ⟨d,0,none⟩),.pointer (some ⟨i,0,none⟩),.pointer (some ⟨a,0,none⟩),.pointer (some ⟨w.heap.size,0,none⟩),.bool true,.tuple #[.agg #[.int .i64 g,.int .i64 b],.bool true],.iface 96 (.agg #[.int .i64 g,.int .i64 b]),.tuple #[.agg #[.int .i64 g,.int .i64 b],.bool true],.agg #[.int .i64 g,.int .i64 b],.bool true,undef,undef,undef,undef,undef,undef]) (by kernel_rfl) ?_;go_upto_region 2 with fail
 have Y:=X.lt;have Z:=he.lt;have V:=U.lt;have q:Blk (w.alloc (.cells #[.int .i64 g,.int .i64 b] 96)).drew w.heap.size 96 #[.int .i64 g,.int .i64 b]:=(Blk.new w _ _).drew;have u:Blk (w.alloc (.cells #[.int .i64 g,.int .i64 b] 96)).drew d 27 #[v0,v1]:=(X.alloc _).drew;have H:Blk (w.alloc (.cells #[.int .i64 g,.int .i64 b] 96)).drew i 32 #[.int .i64 L]:=(he.alloc _).drew;have D:Blk (w.alloc (.cells #[.int .i64 g,.int .i64 b] 96)).drew a 3 #[.int .i64 x2]:=(U.alloc _).drew;have y:=hid (((zA.refl (λc=>c≠d/\c≠i/\c≠a) w).alloc (.cells #[.int .i64 g,.int .i64 b] 96)).drew);have J:w.heap.size≠i/\w.heap.size≠a/\w.heap.size≠d:=by omega
 clear X he U Y Z V;generalize w.heap.size=B at*;refine zL 7 (λW=>Blk W B 96 #[.int .i64 g,.int .i64 b]) (by kernel_rfl) ?_;generalize (w.alloc (.cells #[.int .i64 g,.int .i64 b] 96)).drew =w2 at*;have M:=hid (λ(W:World)(T:Blk W B 96 #[.int .i64 g,.int .i64 b])=>(show W.cell? ⟨B,0,none⟩=some (.int .i64 g)/\W.cell? ⟨B,1,none⟩=some (.int .i64 b)/\B<W.heap.size from⟨T.at0,T.at1,T.lt⟩))
 (refine tkQ 0 q ?_;simp only[nr])
 try simp only[nq]
 (refine tkQ 1 q ?_;simp only[nr])
 try simp only[nq]
 (refine tkS 2 ?_ q ?_ ?_;rotate_left;intro w m;obtain⟨x0,L,xl⟩:=M.out _ m;clear m;go_simp;(try with_reducible rfl);simp only[nr])
 try simp only[nq]
 (refine tkQ 3 q ?_;simp only[nr])
 try simp only[nq]
 (refine tkS 4 ?_ q ?_ ?_;rotate_left;intro w m;obtain⟨x0,L,xl⟩:=M.out _ m;clear m;go_simp;(try with_reducible rfl);simp only[nr])
 try simp only[nq]
 have F:=(u.set_ 0 (.slice none 0 0)).set_ 1 (.slice none 0 0);have j:zA (λc=>c≠d) w2 ((w2.setCell ⟨d,0,none⟩ (.slice none 0 0)).setCell ⟨d,1,none⟩ (.slice none 0 0)):=((zA.refl _ _).setCell (p:=⟨d,0,none⟩) (λ_ h=>h rfl) _).setCell (p:=⟨d,1,none⟩) (λ_ h=>h rfl) _;have s:=q.keep j J.2.2;have x:=H.keep j (λh=>h1 h.symm);have E:=D.keep j (λh=>h2 h.symm);have z:=hid (y.out.trans (j.mono λ_ _ h=>h.1));obtain⟨d0,P,d1,Q,dl⟩:=u.c2;refine wS1 5 (λK o=> ?_);go_wp2_with fail
 refine o _ _ (Or.inr s) ?_;clear o K;try simp only[nq]
 clear j q d0 d1 P Q dl H D u y;generalize (w2.setCell ⟨d,0,none⟩ (.slice none 0 0)).setCell ⟨d,1,none⟩ (.slice none 0 0)=w3 at*;have k:zA (λc=>c≠i) w3 (w3.setCell ⟨i,0,none⟩ (.int .i64 g)):=(zA.refl _ _).setCell (p:=⟨i,0,none⟩) (λ_ h=>h rfl) _;have I:=x.set_ 0 (.int .i64 g);have C:=s.keep k J.1;have G:=F.keep k h1;have t:=E.keep k (λh=>h3 h.symm);have A:=hid (z.out.trans (k.mono λ_ _ h=>h.2.1));obtain⟨e0,R,el⟩:=x.c1;refine wS1 6 (λK o=> ?_);go_wp2_with fail
 refine o _ _ (Or.inr C) ?_;clear o K;try simp only[nq]
 clear k s e0 R el x E F z;generalize w3.setCell ⟨i,0,none⟩ (.int .i64 g)=w4 at*;have n:zA (λc=>c≠a) w4 (w4.setCell ⟨a,0,none⟩ (.int .i64 b)):=(zA.refl _ _).setCell (p:=⟨a,0,none⟩) (λ_ h=>h rfl) _;have ab:=t.set_ 0 (.int .i64 b);have ac:=G.keep n h2;have ad:=I.keep n h3;have N:=hid (A.out.trans (n.mono λ_ _ h=>h.2.2));obtain⟨a0,O,al⟩:=t.c1;refine wS1 7 (λK o=> ?_);go_wp2_with fail
 refine o _ _ (Or.inl rfl) ?_;clear o K;try simp only[nq]
 clear n C a0 O al I t G A M;generalize w4.setCell ⟨a,0,none⟩ (.int .i64 b)=w5 at*;refine wSd ?_ _;go_wp2_with fail
 have hk:=N.out;cases c₀;simp_all [bodyPostS,results,results47]
theorem Tryz.eLine:zB0 prog 42 7 88:=zBp (z:= .agg #[.int .i64 0,.string ⟨#[]⟩,.int .i64 0,.int .i64 0,.slice none 0 0,.string ⟨#[]⟩,.bool false]) (by kernel_rfl) rfl (by decide)
def zF7(s:ByteArray)(w:World)(e:Ending)(w':World):Prop:=
 ∃D c L lc,e= .returned (.tuple #[.agg #[.slice D (zCg s).1.dom.length c,.slice L (zCg s).1.lines.length lc],.int .i64 (zCg s).2.1,.int .i64 (zCg s).2.2])/\
  zAA (λb=>w.heap.size<=b) w' (.slice D (zCg s).1.dom.length c) (.slice L (zCg s).1.lines.length lc) (zCg s).1/\Below w.heap.size w w'
theorem zT4(Z:zE)(w:World):zBS Z w (.slice none 0 0) []:=⟨⟨none,0,rfl,Nat.le_refl _,by omega,by simp,trivial⟩⟩
theorem zQb(Z:zE)(w:World):zAA Z w (.slice none 0 0) (.slice none 0 0) ⟨[],[]⟩:=⟨zHh _ _,zT4 _ _⟩
theorem zSK(s:ByteArray)(w:World)(hs:s.size<=140737488355328)(I:¬(zJ s).2.1=0):Calls prog 23 #[.string s] w (zF7 s w):=by
 have P:=hid (λW=>zEs s W hs);have E:=hid (show zCg s=(if(zJ s).2.1≠0 then(⟨[],[]⟩,(zJ s).2.1,(zJ s).2.2)else match zLZ s (zJ s).1 with| .error e=>(⟨[],[]⟩,e.1,e.2)| .ok t=>(t,0,0)) from rfl);have ab:∀(Q:Fn)(first cap:Array Value)(w:World),(Instr.makeFunc Q first cap).run prog w= .ok (.func Q first cap) w:=λ_ _ _ _=>rfl
 go_enter_defers func23,ntmps23
 go_wp2_with fail
 refine(P.out _).mono ?_;rintro e q ⟨v,rfl,m,i⟩;obtain⟨A,cap,rfl,D⟩:=zAt.of_own m;have U:=(((Blk.new w 27 #[.slice none 0 0,.slice none 0 0]).alloc (.cells #[.int .i64 0] 32)).alloc (.cells #[.int .i64 0] 3)).below i (by simp;omega);have he:=((zBv w (.cells #[.slice none 0 0,.slice none 0 0] 27) 32 #[.int .i64 0]).alloc (.cells #[.int .i64 0] 3)).below i (by simp);have x:=(Blk.new' ((w.alloc (.cells #[.slice none 0 0,.slice none 0 0] 27)).alloc (.cells #[.int .i64 0] 32)) 3 #[.int .i64 0] (n:=w.heap.size+1+1) (by simp)).below i (by simp);have T:Below w.heap.size w q:=(((zF w (.cells #[.slice none 0 0,.slice none 0 0] 27)).alloc (by simp) (.cells #[.int .i64 0] 32)).alloc (by simp;omega) (.cells #[.int .i64 0] 3)).trans (i.mono (by simp;omega));clear i m D P;have e0:=he.at0;have ef:=he.frozen 0;have el:=he.lt;have a0:=x.at0;have af:=x.frozen 0;have al:=x.lt;have N:=hid U;have O:=hid he;have J:=hid x;have M:=hid T;clear U he x T;obtain⟨L,R⟩:∃L,L=zJ s:=⟨_,rfl⟩;rw[<-R]at E I⊢;clear R;obtain⟨ts,d,a⟩:=L;dsimp only at*;have u:=hid (E.out.trans (if_pos I));have aa:(d !=(0:Int))=true:=by simp[I]
 clear E;have B:Blk ((q.setCell ⟨w.heap.size+1,0,none⟩ (.int .i64 d)).setCell ⟨w.heap.size+1+1,0,none⟩ (.int .i64 a)) w.heap.size 27 #[.slice none 0 0,.slice none 0 0]:=(N.out.far (p:=⟨w.heap.size+1,0,none⟩) (by show w.heap.size≠w.heap.size+1;omega) _).far (p:=⟨w.heap.size+1+1,0,none⟩) (by show w.heap.size≠w.heap.size+1+1;omega) _;have C:Blk ((q.setCell ⟨w.heap.size+1,0,none⟩ (.int .i64 d)).setCell ⟨w.heap.size+1+1,0,none⟩ (.int .i64 a)) (w.heap.size+1) 32 #[.int .i64 d]:=(O.out.set_ 0 _).far (p:=⟨w.heap.size+1+1,0,none⟩) (by show w.heap.size+1≠w.heap.size+1+1;omega) _;have y:Blk ((q.setCell ⟨w.heap.size+1,0,none⟩ (.int .i64 d)).setCell ⟨w.heap.size+1+1,0,none⟩ (.int .i64 a)) (w.heap.size+1+1) 3 #[.int .i64 a]:=(J.out.far (p:=⟨w.heap.size+1,0,none⟩) (by show w.heap.size+1+1≠w.heap.size+1;omega) _).set_ 0 _;have z:Below w.heap.size w ((q.setCell ⟨w.heap.size+1,0,none⟩ (.int .i64 d)).setCell ⟨w.heap.size+1+1,0,none⟩ (.int .i64 a)):=(M.out.setCell (by show w.heap.size<=w.heap.size+1;omega) _).setCell (by show w.heap.size<=w.heap.size+1+1;omega) _;go_upto_region 3 with fail
 clear e0 ef a0 af el al N O J M;generalize (q.setCell ⟨w.heap.size+1,0,none⟩ (.int .i64 d)).setCell ⟨w.heap.size+1+1,0,none⟩ (.int .i64 a)=V at*;refine zL 5 (λW=>Blk W w.heap.size 27 #[.slice none 0 0,.slice none 0 0]/\Blk W (w.heap.size+1) 32 #[.int .i64 d]/\Blk W (w.heap.size+1+1) 3 #[.int .i64 a]/\Below w.heap.size w W) (by kernel_rfl) ?_;have b:(λW:World=>Blk W w.heap.size 27 #[.slice none 0 0,.slice none 0 0]/\Blk W (w.heap.size+1) 32 #[.int .i64 d]/\Blk W (w.heap.size+1+1) 3 #[.int .i64 a]/\Below w.heap.size w W) V.drew:=⟨B,C,y,z.drew⟩;generalize V.drew=X at*;clear B C y z
 (refine tkZ 0 ?_ b ?_ ?_ (hQ:=by exact λ_ _ _ h=>zBD rfl (by decide) h);rotate_left;intro w;go_simp;(try with_reducible rfl);simp only[nr])
 try simp only[nq]
 (refine tkS 1 ?_ b ?_ ?_ (hQ:=by exact λ_ _ _ h=>zBD rfl (by decide) h);rotate_left;intro w f;have j:=f.2.1.at0;have o:=f.2.1.lt;clear f;go_simp;(try with_reducible rfl);simp only[nr])
 try simp only[nq]
 (refine tkS 2 ?_ b ?_ ?_ (hQ:=by exact λ_ _ _ h=>zBD rfl (by decide) h);rotate_left;intro w f;have j:=f.2.2.1.at0;have o:=f.2.2.1.lt;clear f;go_simp;(try with_reducible rfl);simp only[nr])
 try simp only[nq]
 obtain⟨j,g,G,H,o⟩:=b.1.c2
 have c:(λW:World=>Blk W w.heap.size 27 #[.slice none 0 0,.slice none 0 0]/\Blk W (w.heap.size+1) 32 #[.int .i64 d]/\Blk W (w.heap.size+1+1) 3 #[.int .i64 a]/\Below w.heap.size w W) ((X.setCell ⟨w.heap.size,0,none⟩ (.slice none 0 0)).setCell ⟨w.heap.size,1,none⟩ (.slice none 0 0)):=
  ⟨(b.1.set_ 0 (.slice none 0 0)).set_ 1 (.slice none 0 0),(b.2.1.far (p:=⟨w.heap.size,0,none⟩) (by show w.heap.size+1≠w.heap.size;omega) _).far (p:=⟨w.heap.size,1,none⟩) (by show w.heap.size+1≠w.heap.size;omega) _,(b.2.2.1.far (p:=⟨w.heap.size,0,none⟩) (by show w.heap.size+1+1≠w.heap.size;omega) _).far (p:=⟨w.heap.size,1,none⟩) (by show w.heap.size+1+1≠w.heap.size;omega) _,(b.2.2.2.setCell (by show w.heap.size<=w.heap.size;omega) _).setCell (by show w.heap.size<=w.heap.size;omega) _⟩
 refine wS1 3 (λK k=> ?_);go_wp2_with fail
 refine k _ _ (Or.inr c) ?_;clear k K;try simp only[nq]
 clear b j G g H o;generalize (X.setCell ⟨w.heap.size,0,none⟩ (.slice none 0 0)).setCell ⟨w.heap.size,1,none⟩ (.slice none 0 0)=Y at*;have b:=c;clear c;obtain⟨j,g,o⟩:=b.2.1.c1;have c:(λW:World=>Blk W w.heap.size 27 #[.slice none 0 0,.slice none 0 0]/\Blk W (w.heap.size+1) 32 #[.int .i64 d]/\Blk W (w.heap.size+1+1) 3 #[.int .i64 a]/\Below w.heap.size w W) (Y.setCell ⟨w.heap.size+1,0,none⟩ (.int .i64 d)):=⟨b.1.far (p:=⟨w.heap.size+1,0,none⟩) (by show w.heap.size≠w.heap.size+1;omega) (.int .i64 d),b.2.1.set_ 0 (.int .i64 d),b.2.2.1.far (p:=⟨w.heap.size+1,0,none⟩) (by show w.heap.size+1+1≠w.heap.size+1;omega) (.int .i64 d),b.2.2.2.setCell (by show w.heap.size<=w.heap.size+1;omega) _⟩;refine wS1 4 (λK k=> ?_);go_wp2_with fail
 refine k _ _ (Or.inr c) ?_;clear k K;try simp only[nq]
 clear b j g o;generalize Y.setCell ⟨w.heap.size+1,0,none⟩ (.int .i64 d)=Z at*;have b:=c;clear c;obtain⟨j,g,o⟩:=b.2.2.1.c1;have c:(λW:World=>Blk W w.heap.size 27 #[.slice none 0 0,.slice none 0 0]/\Blk W (w.heap.size+1) 32 #[.int .i64 d]/\Blk W (w.heap.size+1+1) 3 #[.int .i64 a]/\Below w.heap.size w W) (Z.setCell ⟨w.heap.size+1+1,0,none⟩ (.int .i64 a)):=⟨b.1.far (p:=⟨w.heap.size+1+1,0,none⟩) (by show w.heap.size≠w.heap.size+1+1;omega) (.int .i64 a),b.2.1.far (p:=⟨w.heap.size+1+1,0,none⟩) (by show w.heap.size+1≠w.heap.size+1+1;omega) (.int .i64 a),b.2.2.1.set_ 0 (.int .i64 a),b.2.2.2.setCell (by show w.heap.size<=w.heap.size+1+1;omega) _⟩;refine wS1 5 (λK k=> ?_);go_wp2_with fail
 refine k _ _ (Or.inr c) ?_;clear k K;try simp only[nq]
 clear b j g o;generalize Z.setCell ⟨w.heap.size+1+1,0,none⟩ (.int .i64 a)=w6 at*;have b:=c;clear c;refine wSd ?_ _;go_wp2_with fail
 have j:=b.1.at0;have F:=b.1.at1;have G:=b.2.1.at0;have d2:=b.2.2.1.at0;refine⟨.tuple #[.agg #[.slice none 0 0,.slice none 0 0],.int .i64 d,.int .i64 a],by simp[results,results23,go_sem,j,F,G,d2],none,0,none,0,?_,?_,b.2.2.2⟩
 ·rw[u.out];rfl
 ·rw[u.out];exact zQb _ _
theorem zm.live4{Z:zE}{w:World}:∀{l:List zC}{A:Option Addr},zm (λcs x=>cs=zC.cells x) 4 Z w l A->zm (λcs x=>cs=zC.cells x) 4 (λb=>Z b/\b<w.heap.size) w l A
 |[],_,_=>trivial
 |x::_,_,⟨b,off,cs,e,hz,hc,a,h2⟩=>⟨b,off,cs,e,⟨hz,lt_of_cell (hc 0 (.string x.name) (by have a:cs=zC.cells x:=a;rw[a];rfl))⟩,hc,a,zm.live4 h2⟩
theorem Facts.live{Z:zE}{v:Value}{xs:List zC}(h:Facts Z w v xs):Facts (λb=>Z b/\b<w.heap.size) w v xs:=by
 obtain⟨⟨A,cap,e,a,c,d,f⟩,g⟩:=h;exact⟨⟨A,cap,e,a,c,d,f.live4⟩,g⟩
theorem zT5{fin k:Int}{c:ByteArray}{j a:Nat}{t:Tok}(h:zAr fin k c (ts.drop j)= .ok (t,ts.drop a))(d:a<=ts.length):a=j+1:=by
 have b:=congrArg List.length (zDI h);simp only[List.length_drop,List.length_cons]at b;omega
theorem zJO{α:Type}(p:α->Bool):∀l:List α,(l.dropWhile p).length <=l.length
 |[]=>Nat.le_refl _
 |a::l=>by
  rw[List.dropWhile_cons];split
  ·have:=zJO p l;simp only[List.length_cons];omega
  ·exact Nat.le_refl _
theorem zSL{α:Type}{b:ByteArray}{a:ByteArray->α × Int × Int}{c:Tok}{x:α}(h:zC4 s b a c ts= .ok (x,r)):r.length<=ts.length:=by
 simp only[zC4]at h;split at h
 ·cases h
 ·split at h
  ·cases h
  ·split at h
   ·cases h
   ·injection h with h;injection h with _ h;subst h;exact zJO _ _
theorem zT6(h:zFV s d ts= .ok (l,r)):r.length<=ts.length:=by
 unfold zFV at h;obtain⟨⟨a,o⟩,j,h⟩:=zA3 h;obtain⟨⟨b,q⟩,k,h⟩:=zA3 h;obtain⟨⟨c,t⟩,m,h⟩:=zA3 h;obtain⟨_,_,h⟩:=zA3 h;obtain⟨⟨z,u⟩,n,h⟩:=zA3 h;injection h with h;injection h with _ h;subst h;have f:=congrArg List.length (zDI j);have e:=congrArg List.length (zDI k);have i:=zSL m;have g:=congrArg List.length (zDI n);dsimp only at f e i g⊢;simp only[List.length_cons]at f e g;split at e
 ·rw[List.length_tail]at e;omega
 ·omega
structure TSt (w wr:World) (R:Nat) (s:ByteArray) (A:Option Addr) (cap:Nat) (ts:List Tok) (k:Nat) (t:zY) (DA:Option Addr) (dcap:Nat) (LA:Option Addr) (lcap:Nat) (csl:List (List Value)):Prop where
 box:Blk wr w.heap.size 27 #[.slice DA t.dom.length dcap,.slice LA t.lines.length lcap]
 dom:Facts (λb=>R<b/\b<wr.heap.size/\(Value.slice LA t.lines.length lcap).ownBlock ≠some b) wr (.slice DA t.dom.length dcap) t.dom
 own:wr.ownsRow (R+1) 42 7 (.slice LA t.lines.length lcap) t.lines.length csl.flatten
 each:zc (zA4 (λb=>R<b/\b<wr.heap.size/\(Value.slice LA t.lines.length lcap).ownBlock ≠some b) wr) 7 t.lines csl
 err:Blk wr (w.heap.size+1) 32 #[.int .i64 0]
 at_:Blk wr (w.heap.size+1+1) 3 #[.int .i64 0]
 rd:RdT wr R s A cap ts k
 tok:zAt (λc=>w.heap.size+1+1<c/\c<R) wr A cap ts
 be:Below w.heap.size w wr
 lim:w.heap.size+1+1<R
 le:t.lines.length<=100
 k:k<=ts.length
section
variable {w wr x:World} {R:Nat} {s:ByteArray} {A:Option Addr} {cap:Nat} {ts:List Tok} {k k':Nat} {t:zY} {DA LA:Option Addr} {dcap lcap:Nat} {csl:List (List Value)}
theorem TSt.rl(h:TSt w wr R s A cap ts k t DA dcap LA lcap csl):R<wr.heap.size:=Blk.lt h.rd
theorem TSt.rows(h:TSt w wr R s A cap ts k t DA dcap LA lcap csl){b:Nat}(a:(Value.slice LA t.lines.length lcap).ownBlock =some b):R+1<=b:=(h.own.lt b a).1
theorem TSt.step(h:TSt w wr R s A cap ts k t DA dcap LA lcap csl)(a:zA (λc=>c≠R) wr x)(i:RdT x R s A cap ts k')(f:k'<=ts.length):TSt w x R s A cap ts k' t DA dcap LA lcap csl:=by
 have g:=h.lim;have m:=a.size
 refine⟨h.box.keep a (by omega),(h.dom.keep (a.mono λb _ d=>by show b≠R;omega)).mono λb d=>⟨d.1,by omega,d.2.2⟩,zX (Z:=λc=>c≠R) h.own a (λb d=>by have:=h.rows d;show b≠R;omega),
  h.each.imp λj l e=>(e.keep (a.mono λb _ d=>by show b≠R;omega)).mono λb d=>⟨d.1,by omega,d.2.2⟩,h.err.keep a (by omega),h.at_.keep a (by omega),i,
  (h.tok.keep (a.mono λb _ d=>by show b≠R;omega)),?_,h.lim,h.le,f⟩
 exact⟨a.os.trans h.be.os,a.tape.trans h.be.tape,a.output.trans h.be.output,Nat.le_trans h.be.size a.size,λb d=>(a.block b (by have:=h.rl;omega) (by omega)).trans (h.be.block b d)⟩
theorem TSt.below(h:TSt w wr R s A cap ts k t DA dcap LA lcap csl)(a:Below wr.heap.size wr x):TSt w x R s A cap ts k t DA dcap LA lcap csl:=
 h.step (.of_below a) (Blk.below h.rd a h.rl) h.k
theorem TSt.toks(h:TSt w wr R s A cap ts k t DA dcap LA lcap csl):zAt (λc=>c≠R) wr A cap ts:=h.tok.mono λb a=>by omega
theorem TSt.setDom(h:TSt w wr R s A cap ts k ⟨[],[]⟩ none 0 none 0 []){c:Nat}(f:Facts (λb=>R<b/\b<wr.heap.size) wr (.slice DA d.length c) d):
  TSt w (wr.setCell ⟨w.heap.size,0,none⟩ (.slice DA d.length c)) R s A cap ts k ⟨d,[]⟩ DA c none 0 []:=by
 have g:=h.lim;have e:zA (λb=>b≠w.heap.size) wr (wr.setCell ⟨w.heap.size,0,none⟩ (.slice DA d.length c)):=(zA.refl _ _).setCell (p:=⟨w.heap.size,0,none⟩) (λ_ h=>h rfl) _
 refine⟨h.box.set_ 0 _,(f.keep (e.mono λb _ a=>by have:=a.1;show b≠w.heap.size;omega)).mono λb a=>⟨a.1,by simpa[World.setCell]using a.2,by simp[Value.ownBlock]⟩,World.ownsRow_nil _ _ _ _,trivial,
  h.err.keep e (by omega),h.at_.keep e (by omega),Blk.keep h.rd e (by omega),h.tok.keep (e.mono λb _ a=>by show b≠w.heap.size;omega),h.be.setCell (p:=⟨w.heap.size,0,none⟩) (Nat.le_refl _) _,h.lim,by simp,h.k⟩
theorem TSt.push(h:TSt w wr R s A cap ts k t DA dcap LA lcap csl){x0:World}(V:R<x0.heap.size)(v:∀b,(Value.slice LA t.lines.length lcap).ownBlock =some b->b<x0.heap.size){cs:List Value}(O:zA4 (λb=>x0.heap.size<=b) wr cs l)(G:cs.length=7)(W:t.lines.length≠100){o:Obj}{d:Option Addr}{a:Nat}
  (M:x.ownsRow (R+1) 42 7 (.slice d (t.lines.length+1) a) (t.lines.length+1) (csl.flatten++cs))(H:(wr.alloc o).grownBy x (Value.slice LA t.lines.length lcap).ownBlock)(D:(Value.slice d (t.lines.length+1) a).ownBlock =(Value.slice LA t.lines.length lcap).ownBlock \/(Value.slice d (t.lines.length+1) a).ownBlock =some (wr.alloc o).heap.size)(P:∀b,x0.heap.size<=b->b<wr.heap.size\/True):
  TSt w (x.setCell ⟨w.heap.size,1,none⟩ (.slice d (t.lines.length+1) a)) R s A cap ts k ⟨t.dom,t.lines++[l]⟩ DA dcap d a (csl++[cs]):=by
 have L:=h.lim;have Q:=h.le;have U:(wr.alloc o).heap.size =wr.heap.size+1:=by simp
 have T:=H.size;have g:zA (λc=>c<=R) wr x:=((zA.refl _ wr).alloc o).grown H (λb f _ I=>by have:=h.rows f;have:b<=R:=I;omega);have n:zA (λb=>R<b/\b<wr.heap.size/\(Value.slice LA t.lines.length lcap).ownBlock ≠some b) wr x:=((zA.refl _ wr).alloc o).grown H (λb f _ I=>I.2.2 f);have j:zA (λc=>c≠w.heap.size) x (x.setCell ⟨w.heap.size,1,none⟩ (.slice d (t.lines.length+1) a)):=(zA.refl _ _).setCell (p:=⟨w.heap.size,1,none⟩) (λ_ h=>h rfl) _;have m:(x.setCell ⟨w.heap.size,1,none⟩ (.slice d (t.lines.length+1) a)).heap.size =x.heap.size:=by simp[World.setCell]
 have q:∀b,(R<b/\b<wr.heap.size/\(Value.slice LA t.lines.length lcap).ownBlock ≠some b)->R<b/\b<x.heap.size/\(Value.slice d (t.lines.length+1) a).ownBlock ≠some b:=λb ⟨z,K,C⟩=>⟨z,by omega,λe=>by
  rcases D with y|y
  ·exact C (by rw[<-y,e])
  ·rw[y]at e;injection e with e;omega⟩
 have i:(t.lines++[l]).length =t.lines.length+1:=by simp
 refine⟨?_,?_,?_,?_,(h.err.keep g (by show w.heap.size+1<=R;omega)).keep j (by show w.heap.size+1≠w.heap.size;omega),(h.at_.keep g (by show w.heap.size+1+1<=R;omega)).keep j (by show w.heap.size+1+1≠w.heap.size;omega),Blk.keep (Blk.keep h.rd g (Nat.le_refl _)) j (by show R≠w.heap.size;omega),
  (h.tok.keep (g.mono λb _ f=>by show b<=R;omega)).keep (j.mono λb _ f=>by show b≠w.heap.size;omega),?_,h.lim,by simp;omega,h.k⟩
 ·have:=(h.box.keep g (by show w.heap.size<=R;omega)).set_ 1 (.slice d (t.lines.length+1) a);rw[i];exact this
 ·rw[i,m];exact((h.dom.keep n).mono q).keep (j.mono λb _ f=>by have:=f.1;show b≠w.heap.size;omega)
 ·rw[i,List.flatten_append];have:=zX (Z:=λc=>c≠w.heap.size) M j (λb f=>by have:=(M.lt b f).1;show b≠w.heap.size;omega);simpa using this
 ·rw[i,m];refine(h.each.imp λN X F=>((F.keep n).mono q).keep (j.mono λb _ f=>by have:=f.1;show b≠w.heap.size;omega)).append (zc.one ?_ G);obtain⟨J,z,K,C⟩:=O;have B:=FmR.live _ _ z;have u:FmR (λb=>R<b/\b<wr.heap.size/\(Value.slice LA t.lines.length lcap).ownBlock ≠some b) wr l.when_ J:=FmR.mono (λb f=>⟨by have:=f.1;omega,f.2,λe=>by have:=v b e;have:=f.1;omega⟩) _ _ B;exact⟨J,FmR.keep (j.mono λb _ f=>by have:=f.1;show b≠w.heap.size;omega) _ _ (FmR.mono q _ _ (FmR.keep n _ _ u)),K,C⟩
 ·have E:Below w.heap.size w x:=⟨g.os.trans h.be.os,g.tape.trans h.be.tape,g.output.trans h.be.output,Nat.le_trans h.be.size g.size,λb f=>(g.block b (by have:=h.rl;omega) (by show b<=R;omega)).trans (h.be.block b f)⟩;exact E.setCell (p:=⟨w.heap.size,1,none⟩) (Nat.le_refl _) _
theorem TSt.tar(h:TSt w wr R s A cap ts k t DA dcap LA lcap csl):zAA (λb=>w.heap.size<=b) wr (.slice DA t.dom.length dcap) (.slice LA t.lines.length lcap) t:=by
 have i:=h.lim;refine⟨h.dom.mono λb c=>by have:=c.1;show w.heap.size<=b;omega,?_⟩;obtain⟨x,g,e,m,n,o⟩:=Row.of_own h.own (by decide);injection e with e1 e2 e3;subst e1 e3;refine⟨⟨LA,lcap,rfl,m,by simpa[maxLen]using n,by have:=h.le;omega,?_⟩⟩;have he:=h.each;have f:=he.size
 cases u:t.lines with
 |nil=>unfold zm;trivial
 |cons a r=>
  rw[u]at he f;obtain⟨b,v,rfl,c,d⟩:=o (by intro j;rw[j]at f;simp at f);have q:R+1<=b:=c;exact zc.rows (Z:=λb=>w.heap.size<=b) (by show w.heap.size<=b;omega) (he.imp λy l d=>d.mono λb c=>by have:=c.1;show w.heap.size<=b;omega) d
end
theorem TSt.ends{w wr:World}(h:TSt w wr R s A cap ts k t DA dcap LA lcap csl):
  TSt w ((((wr.setCell ⟨w.heap.size,0,none⟩ (.slice DA t.dom.length dcap)).setCell ⟨w.heap.size,1,none⟩ (.slice LA t.lines.length lcap)).setCell ⟨w.heap.size+1,0,none⟩ (.int .i64 0)).setCell ⟨w.heap.size+1+1,0,none⟩ (.int .i64 0)) R s A cap ts k t DA dcap LA lcap csl:=by
 have g:=h.lim
 have d:zA (λc=>w.heap.size+1+1<c) wr ((((wr.setCell ⟨w.heap.size,0,none⟩ (.slice DA t.dom.length dcap)).setCell ⟨w.heap.size,1,none⟩ (.slice LA t.lines.length lcap)).setCell ⟨w.heap.size+1,0,none⟩ (.int .i64 0)).setCell ⟨w.heap.size+1+1,0,none⟩ (.int .i64 0)):=
  ((((zA.refl _ _).setCell (p:=⟨w.heap.size,0,none⟩) (λ_(h:w.heap.size+1+1<w.heap.size)=>by omega) _).setCell (p:=⟨w.heap.size,1,none⟩) (λ_(h:w.heap.size+1+1<w.heap.size)=>by omega) _).setCell (p:=⟨w.heap.size+1,0,none⟩) (λ_(h:w.heap.size+1+1<w.heap.size+1)=>by omega) _).setCell (p:=⟨w.heap.size+1+1,0,none⟩) (λ_(h:w.heap.size+1+1<w.heap.size+1+1)=>by omega) _
 have j:=d.size;have e:((((wr.setCell ⟨w.heap.size,0,none⟩ (.slice DA t.dom.length dcap)).setCell ⟨w.heap.size,1,none⟩ (.slice LA t.lines.length lcap)).setCell ⟨w.heap.size+1,0,none⟩ (.int .i64 0)).setCell ⟨w.heap.size+1+1,0,none⟩ (.int .i64 0)).heap.size =wr.heap.size:=by simp[World.setCell]
 refine⟨(((h.box.set_ 0 _).set_ 1 _).far (p:=⟨w.heap.size+1,0,none⟩) (by show w.heap.size≠w.heap.size+1;omega) _).far (p:=⟨w.heap.size+1+1,0,none⟩) (by show w.heap.size≠w.heap.size+1+1;omega) _,
  by rw[e];exact h.dom.keep (d.mono λb _ a=>by have:=a.1;show w.heap.size+1+1<b;omega),
  zX (Z:=λc=>w.heap.size+1+1<c) h.own d (λb a=>by have:=h.rows a;show w.heap.size+1+1<b;omega),
  by rw[e];exact h.each.imp λi l f=>f.keep (d.mono λb _ a=>by have:=a.1;show w.heap.size+1+1<b;omega),
  (((h.err.far (p:=⟨w.heap.size,0,none⟩) (by show w.heap.size+1≠w.heap.size;omega) _).far (p:=⟨w.heap.size,1,none⟩) (by show w.heap.size+1≠w.heap.size;omega) _).set_ 0 _).far (p:=⟨w.heap.size+1+1,0,none⟩) (by show w.heap.size+1≠w.heap.size+1+1;omega) _,
  (((h.at_.far (p:=⟨w.heap.size,0,none⟩) (by show w.heap.size+1+1≠w.heap.size;omega) _).far (p:=⟨w.heap.size,1,none⟩) (by show w.heap.size+1+1≠w.heap.size;omega) _).far (p:=⟨w.heap.size+1,0,none⟩) (by show w.heap.size+1+1≠w.heap.size+1;omega) _).set_ 0 _,
  Blk.keep h.rd d g,h.tok.keep (d.mono λb _ a=>a.1),?_,h.lim,h.le,h.k⟩
 exact(((h.be.setCell (p:=⟨w.heap.size,0,none⟩) (Nat.le_refl _) _).setCell (p:=⟨w.heap.size,1,none⟩) (Nat.le_refl _) _).setCell (p:=⟨w.heap.size+1,0,none⟩) (by show w.heap.size<=w.heap.size+1;omega) _).setCell (p:=⟨w.heap.size+1+1,0,none⟩) (by show w.heap.size<=w.heap.size+1+1;omega) _
theorem zDO{w wr x:World}(d:TSt w wr R s A cap ts k t DA dcap LA lcap csl)(g:zA (λc=>c≠R) wr x){f:Flt}(m:zCg s=(⟨[],[]⟩,f.1,f.2))
  (y:tmps[2]?.getD undef= .pointer (some ⟨w.heap.size,0,none⟩))(z:tmps[3]?.getD undef= .pointer (some ⟨w.heap.size+1,0,none⟩))(B:tmps[4]?.getD undef= .pointer (some ⟨w.heap.size+1+1,0,none⟩)):
  Leaves prog Tryz.f23 tmps (zF7 s w) [{target:= .fn (.func 47) #[.pointer (some ⟨w.heap.size,0,none⟩),.pointer (some ⟨w.heap.size+1,0,none⟩),.pointer (some ⟨w.heap.size+1+1,0,none⟩)],args:=#[]}] (.panicking [{v:=zB1 96 f,recovered:=false}]) x:=by
 refine leaves_cons (f:=47) (args:=#[.pointer (some ⟨w.heap.size,0,none⟩),.pointer (some ⟨w.heap.size+1,0,none⟩),.pointer (some ⟨w.heap.size+1+1,0,none⟩)]) (by simp) (by simp[go_sem]) ?_;have D:=d.lim;have a:Below w.heap.size w x:=⟨g.os.trans d.be.os,g.tape.trans d.be.tape,g.output.trans d.be.output,Nat.le_trans d.be.size g.size,λb i=>(g.block b (by have:=d.be.size;omega) (by omega)).trans (d.be.block b i)⟩;refine(zSJ w.heap.size (w.heap.size+1) (w.heap.size+1+1) f _ _ 0 0 x (d.box.keep g (by omega)) (d.err.keep g (by omega)) (d.at_.keep g (by omega)) (by omega) (by omega) (by omega)).mono ?_;rintro e E F ⟨rfl,rfl,j,he,C,h⟩;have o:=j.at0;have q:=j.at1;have u:=he.at0;have n:=C.at0;refine⟨.tuple #[.agg #[.slice none 0 0,.slice none 0 0],.int .i64 f.1,.int .i64 f.2],by simp[results,results23,go_sem,y,z,B,o,q,u,n],none,0,none,0,by rw[m];rfl,by rw[m];exact zQb _ _,?_⟩;exact⟨h.os.trans a.os,h.tape.trans a.tape,h.output.trans a.output,Nat.le_trans a.size h.size,λb i=>(h.block b (by have:=a.size;omega) (by omega)).trans (a.block b i)⟩
theorem zU4(o:TSt w x R s A cap ts k t DA dcap LA lcap csl)(b:zCg s=(t,0,0))
  (i:tmps[2]?.getD undef= .pointer (some ⟨w.heap.size,0,none⟩))(j:tmps[3]?.getD undef= .pointer (some ⟨w.heap.size+1,0,none⟩))(m:tmps[4]?.getD undef= .pointer (some ⟨w.heap.size+1+1,0,none⟩)):
  Leaves prog Tryz.f23 tmps (zF7 s w) [{target:= .fn (.func 47) #[.pointer (some ⟨w.heap.size,0,none⟩),.pointer (some ⟨w.heap.size+1,0,none⟩),.pointer (some ⟨w.heap.size+1+1,0,none⟩)],args:=#[]}] .returning x:=by
 refine leaves_cons (f:=47) (args:=#[.pointer (some ⟨w.heap.size,0,none⟩),.pointer (some ⟨w.heap.size+1,0,none⟩),.pointer (some ⟨w.heap.size+1+1,0,none⟩)]) (by simp) (by simp[go_sem]) ?_;refine(zQM w.heap.size (w.heap.size+1) (w.heap.size+1+1) x).mono ?_;rintro e q u ⟨rfl,rfl,n⟩;have a:=o.below n;have d:=a.box.at0;have g:=a.box.at1;have h:=a.err.at0;have c:=a.at_.at0;exact⟨.tuple #[.agg #[.slice DA t.dom.length dcap,.slice LA t.lines.length lcap],.int .i64 0,.int .i64 0],by simp[results,results23,go_sem,i,j,m,d,g,h,c],DA,dcap,LA,lcap,by rw[b],by rw[b];exact a.tar,a.be⟩
theorem zQN(s:ByteArray)(w:World)(hs:s.size<=140737488355328)(h0:(zJ s).2.1=0):Calls prog 23 #[.string s] w (zF7 s w):=by
 have HL:=hid (λW=>zEs s W hs);have HU:=hid (show zCg s=(if(zJ s).2.1≠0 then(⟨[],[]⟩,(zJ s).2.1,(zJ s).2.2)else match zLZ s (zJ s).1 with| .error e=>(⟨[],[]⟩,e.1,e.2)| .ok t=>(t,0,0)) from rfl);have ch:∀(fn:Fn)(first cap:Array Value)(w:World),(Instr.makeFunc fn first cap).run prog w= .ok (.func fn first cap) w:=λ_ _ _ _=>rfl
 go_enter_defers func23,ntmps23
 go_wp2_with fail
 refine(HL.out _).mono ?_;rintro e w1 ⟨v,rfl,ag,H⟩;obtain⟨A,cap,rfl,ah⟩:=zAt.of_own ag;have hd:=(((Blk.new w 27 #[.slice none 0 0,.slice none 0 0]).alloc (.cells #[.int .i64 0] 32)).alloc (.cells #[.int .i64 0] 3)).below H (by simp;omega);have he:=((zBv w (.cells #[.slice none 0 0,.slice none 0 0] 27) 32 #[.int .i64 0]).alloc (.cells #[.int .i64 0] 3)).below H (by simp);have ha:=(Blk.new' ((w.alloc (.cells #[.slice none 0 0,.slice none 0 0] 27)).alloc (.cells #[.int .i64 0] 32)) 3 #[.int .i64 0] (n:=w.heap.size+1+1) (by simp)).below H (by simp);have y:Below w.heap.size w w1:=(((zF w (.cells #[.slice none 0 0,.slice none 0 0] 27)).alloc (by simp) (.cells #[.int .i64 0] 32)).alloc (by simp;omega) (.cells #[.int .i64 0] 3)).trans (H.mono (by simp;omega));have bg:zAt (λb=>w.heap.size+1+1<b) w1 A cap (zJ s).1:=ah.mono λb h=>by simp at h;omega
 clear H ag ah HL;have e0:=he.at0;have ef:=he.frozen 0;have el:=he.lt;have a0:=ha.at0;have af:=ha.frozen 0;have al:=ha.lt;have HD:=hid hd;have HE:=hid he;have HA:=hid ha;have HB:=hid y;have HT:=hid bg;clear hd he ha y bg;obtain⟨L,hL⟩:∃L,L=zJ s:=⟨_,rfl⟩;have E:=hid (λ(h:(zJ s).2.1=0)=>And.intro (zIe h) (zId h));rw[<-hL]at HU HT E h0⊢;clear hL;obtain⟨ts,er,cc⟩:=L;dsimp only at*;subst h0;obtain⟨⟨bn,ai⟩,rfl⟩:=E.out rfl;have ak:=hid (HU.out.trans (if_neg (by simp)));have aj:=hid bn;have ab:=hid (show Asc ts from ai);clear HU E bn ai;have a3:Blk ((w1.setCell ⟨w.heap.size+1,0,none⟩ (.int .i64 0)).setCell ⟨w.heap.size+1+1,0,none⟩ (.int .i64 0)) w.heap.size 27 #[.slice none 0 0,.slice none 0 0]:=(HD.out.far (p:=⟨w.heap.size+1,0,none⟩) (by show w.heap.size≠w.heap.size+1;omega) _).far (p:=⟨w.heap.size+1+1,0,none⟩) (by show w.heap.size≠w.heap.size+1+1;omega) _;have a5:Blk ((w1.setCell ⟨w.heap.size+1,0,none⟩ (.int .i64 0)).setCell ⟨w.heap.size+1+1,0,none⟩ (.int .i64 0)) (w.heap.size+1) 32 #[.int .i64 0]:=(HE.out.set_ 0 _).far (p:=⟨w.heap.size+1+1,0,none⟩) (by show w.heap.size+1≠w.heap.size+1+1;omega) _;have aq:Blk ((w1.setCell ⟨w.heap.size+1,0,none⟩ (.int .i64 0)).setCell ⟨w.heap.size+1+1,0,none⟩ (.int .i64 0)) (w.heap.size+1+1) 3 #[.int .i64 0]:=(HA.out.far (p:=⟨w.heap.size+1,0,none⟩) (by show w.heap.size+1+1≠w.heap.size+1;omega) _).set_ 0 _;have ar:Below w.heap.size w ((w1.setCell ⟨w.heap.size+1,0,none⟩ (.int .i64 0)).setCell ⟨w.heap.size+1+1,0,none⟩ (.int .i64 0)):=(HB.out.setCell (by show w.heap.size<=w.heap.size+1;omega) _).setCell (by show w.heap.size<=w.heap.size+1+1;omega) _;have bd:zAt (λb=>w.heap.size+1+1<b) ((w1.setCell ⟨w.heap.size+1,0,none⟩ (.int .i64 0)).setCell ⟨w.heap.size+1+1,0,none⟩ (.int .i64 0)) A cap ts:=HT.out.keep (((zA.refl _ _).setCell (p:=⟨w.heap.size+1,0,none⟩) (λ_(h:w.heap.size+1+1<w.heap.size+1)=>by omega) _).setCell (p:=⟨w.heap.size+1+1,0,none⟩) (λ_(h:w.heap.size+1+1<w.heap.size+1+1)=>by omega) _);go_upto_region 5 with fail
 clear e0 ef a0 af el al HD HE HA HB HT;generalize (w1.setCell ⟨w.heap.size+1,0,none⟩ (.int .i64 0)).setCell ⟨w.heap.size+1+1,0,none⟩ (.int .i64 0)=w2 at*;go_upto_region 6 with fail
 have HF:TSt w (w2.alloc (.cells #[.string s,.slice A ts.length cap,.int .i64 0] 100)) w2.heap.size s A cap ts 0 ⟨[],[]⟩ none 0 none 0 []:=
  ⟨a3.alloc _,zHh _ _,World.ownsRow_nil _ _ _ _,trivial,a5.alloc _,aq.alloc _,Blk.new w2 _ _,(bd.live.keep ((zA.refl _ _).alloc _)).mono λb y=>y,ar.alloc ar.size _,aq.lt,by simp,Nat.zero_le _⟩
 have U:=hid HF;clear HF a3 a5 aq ar bd;generalize w2.alloc (.cells #[.string s,.slice A ts.length cap,.int .i64 0] 100)=w3 at*;generalize w2.heap.size=R at*;have HT:=hid (λ(W:World)(j:Nat)(t:zY)(DA LA:Option Addr)(dcap lcap:Nat)(csl:List (List Value))(h:TSt w W R s A cap ts j t DA dcap LA lcap csl)(bh:Int)(tx:ByteArray)=>zNi R s A cap ts j bh tx W h.rd h.toks h.k hs)
 have u:=hid (show zLZ s ts=(zj (zAr s.size 1 ⟨#[102,97,99,116,115]⟩ (ts.drop 0)) λa=>
  zj (zAr s.size 4 ⟨#[123]⟩ a.2) λo=>
  zj (zC4 s ⟨#[125]⟩ zBB o.1 o.2) λd=>
  zj (zAr s.size 4 ⟨#[125]⟩ d.2) λc=>
  zj (zDh s d.1 (c.2.length+2) [] c.2) λm=> .ok ⟨d.1,m⟩) from rfl)
 have z:=hid (λ(f:Flt)(h:zLZ s ts= .error f)=>show zCg s=(⟨[],[]⟩,f.1,f.2) from by rw[ak.out,h]);have br:=hid (λ(t:zY)(h:zLZ s ts= .ok t)=>show zCg s=(t,0,0) from by rw[ak.out,h]);clear ak;go_wp2_with fail
 refine(HT.out w3 0 _ _ _ _ _ _ U.out 1 ⟨#[102,97,99,116,115]⟩).mono ?_;intro e w4 x;generalize zAr (s.size:Int) 1 ⟨#[102,97,99,116,115]⟩ (ts.drop 0)=T at*
 cases T with
 |error f=>
  obtain⟨g,rfl⟩:=x.error_;go_wp2_with fail
  exact zDO U.out g (z.out f u.out) rfl rfl rfl
 |ok p=>
  obtain⟨g,rfl,k1,D,M,i⟩:=x.ok_;obtain⟨t1,rr⟩:=p;dsimp only[zAS,Tok.cells]at*;subst D;simp only[zAc]at u;have H4:=hid (U.out.step g i M);clear x g i U;go_wp2_with fail
  refine(HT.out w4 k1 _ _ _ _ _ _ H4.out 4 ⟨#[123]⟩).mono ?_;intro e w5 x;have ax:=hid (λ(t:Tok)(r:List Tok)(h:zAr (s.size:Int) 4 ⟨#[123]⟩ (ts.drop k1)= .ok (t,r))=>And.intro (aj.out t (zND (zDI h))) (ab.out.head (zDI h)));generalize zAr (s.size:Int) 4 ⟨#[123]⟩ (ts.drop k1)=T at*
  cases T with
  |error f=>
   obtain⟨g,rfl⟩:=x.error_;(go_wp2_with fail);exact zDO H4.out g (z.out f u.out) rfl rfl rfl
  |ok p=>
   obtain⟨g,rfl,k2,D,a8,i⟩:=x.ok_;obtain⟨⟨bi,bk,bj,bm⟩,rr⟩:=p;dsimp only[zAS,Tok.cells]at*;subst D;simp only[zAc]at u;obtain⟨bf,bc⟩:=ax.out _ _ rfl;have H5:=hid (H4.out.step g i a8);clear x g i H4 ax;(go_wp2_with fail);refine(zSD R s A cap ts k2 ⟨bi,bk,bj,bm⟩ ⟨#[125]⟩ w5 hs H5.out.rd H5.out.toks a8 bf aj.out bc).mono ?_;intro e w6 x;clear bf bc;generalize zC4 s ⟨#[125]⟩ zBB ⟨bi,bk,bj,bm⟩ (ts.drop k2)=T at*
   cases T with
   |error f=>
    obtain⟨g,rfl⟩:=x.error_;(go_wp2_with fail);exact zDO H5.out g (z.out f u.out) rfl rfl rfl
   |ok p=>
    obtain⟨g,v,rfl,hrel,k3,D,b4,i⟩:=x.ok_;obtain⟨ds,rr⟩:=p;dsimp only at D hrel;obtain⟨DA,dcap,rfl,a4⟩:=hrel;subst D;simp only[zAc]at u;have cf:=H5.out.rl;have H6:=hid (H5.out.step g i b4);have aw:=hid ((a4.live).mono (Z':=λb=>R<b/\b<w6.heap.size) λb y=>⟨by have:=y.1;omega,y.2⟩);clear x g i a4 H5;obtain⟨d0,ao,d1,ap,dl⟩:=H6.out.box.c2;(go_upto_region 8 with fail);have H7:=hid (H6.out.setDom aw.out);clear H6 aw d0 d1 ao ap dl;generalize w6.setCell ⟨w.heap.size,0,none⟩ (.slice DA ds.length dcap)=w7 at*;(go_wp2_with fail);refine(HT.out w7 k3 _ _ _ _ _ _ H7.out 4 ⟨#[125]⟩).mono ?_;intro e w8 x;generalize zAr (s.size:Int) 4 ⟨#[125]⟩ (ts.drop k3)=T at*
    cases T with
    |error f=>
     obtain⟨g,rfl⟩:=x.error_;(go_wp2_with fail);exact zDO H7.out g (z.out f u.out) rfl rfl rfl
    |ok p=>
     obtain⟨g,rfl,k4,D,b5,i⟩:=x.ok_;obtain⟨t1,rr⟩:=p;dsimp only[zAS,Tok.cells]at*;subst D;simp only[zAc]at u;have H8:=hid (H7.out.step g i b5);clear x g i H7;have az:=hid (show zDh s ds ((ts.drop k4).length +2) [] (ts.drop k4)=zDh s ds ((ts.drop k4).length +2) [] (ts.drop k4) from rfl);generalize ae:zDh s ds ((ts.drop k4).length +2) [] (ts.drop k4)=X at*;have V:=hid ae;clear ae az;(go_wp2_with fail);go_loopg[7] ((ts.drop k4).length +2) (λkx v7 wr=>∃(k:Nat)(m:List zI)(LA:Option Addr)(lcap kn:Nat)(csl:List (List Value)),kn=kx/\Hid (TSt w wr R s A cap ts k ⟨ds,m⟩ DA dcap LA lcap csl)/\Hid (zDh s ds kn m (ts.drop k)=X)/\Hid (ts.length+2<=k+kn));case atStart=>exact⟨k4,[],none,0,_,[],rfl,H8,V,hid (by simp;omega)⟩
     case round=>
      obtain⟨k,m,LA,lcap,kn,csl,a7,B,P,bb⟩:=hrel;have bo:=hid a7;clear a7 H8 V;obtain⟨Q,rfl⟩:∃n',kn=n'+1:=⟨kn-1,by have:=bb.out;have:=B.out.k;omega⟩;have cg:=B.out.k;have O:=(show Blk wr R 100 #[.string s,.slice A ts.length cap,.int .i64 (k:Int)] from B.out.rd);have r2:=O.at2;have b8:=O.lt;have b1:=B.out.box.at1;have bl:=B.out.box.lt;have ce:=B.out.tok.few;clear O;dsimp only at b1;(go_upto_region 9 with fail);go_cut[45] from 33 to 45 (λv wx=>v= .bool (decide (m=[]\/k<ts.length))/\wr=wx)
      case first=>
       by_cases q:m=[]
       ·(have e1:((m.length:Int)==(0:Int))=true:=by simp[q]);have HV:=hid (show decide (m=[]\/k<ts.length)=true from decide_eq_true (.inl q));clear q;(go_wp2_with fail);go_meet;rw[HV.out];exact⟨rfl,rfl⟩
       ·(have e1:((m.length:Int)==(0:Int))=false:=by simp[q]);by_cases q2:k<ts.length
        ·have HV:=hid (show decide (m=[]\/k<ts.length)=true from decide_eq_true (.inr q2));(have q3:(k:Int)<(ts.length:Int):=by omega);clear q;(go_wp2_with fail);go_meet;rw[HV.out];exact⟨rfl,rfl⟩
        ·have HV:=hid (show decide (m=[]\/k<ts.length)=false from decide_eq_false (λh=>h.elim q q2));clear q;(go_wp2_with fail);go_meet;rw[HV.out];exact⟨rfl,rfl⟩
      case rest=>
       obtain⟨rfl,rfl⟩:=hcut;clear r2 b8 b1 bl;by_cases y:m=[]\/k<ts.length
       ·rw[decide_eq_true y]
        have C:=hid (show(zj (zAr s.size 1 ⟨#[99,108,97,115,115]⟩ (ts.drop k)) λcl=>zj (chk (decide (m.length=100)) 2 cl.1) λ_=>zj (zFV s ds cl.2) λl=>zDh s ds Q (m++[l.1]) l.2)=X from by
         rw[<-P.out];show _=zDh s ds (Q+1) m (ts.drop k);simp only[zDh];rw[if_neg]
         ·rfl
         ·rintro⟨h1,h2⟩;rcases y with h|h
          ·subst h;simp at h1
          ·have h3:=congrArg List.length (List.isEmpty_iff.1 h2);simp only[List.length_drop,List.length_nil]at h3;omega)
        clear y P;(go_wp2_with fail);refine(HT.out wr k _ _ _ _ _ _ B.out 1 ⟨#[99,108,97,115,115]⟩).mono ?_;intro e x1 x;have aa:=hid (λ(t:Tok)(j':Nat)(h:zAr (s.size:Int) 1 ⟨#[99,108,97,115,115]⟩ (ts.drop k)= .ok (t,ts.drop j'))(h2:j'<=ts.length)=>zT5 h h2);generalize zAr (s.size:Int) 1 ⟨#[99,108,97,115,115]⟩ (ts.drop k)=T at*
        cases T with
        |error f=>
         obtain⟨g,rfl⟩:=x.error_;(go_wp2_with fail);exact zDO B.out g (z.out f (by rw[u.out,<-C.out];rfl)) rfl rfl rfl
        |ok p=>
         obtain⟨g,rfl,k1,D,M,i⟩:=x.ok_;obtain⟨⟨ck,cp,cn,ct⟩,rr⟩:=p;dsimp only[zAS,Tok.cells]at*;subst D;simp only[zAc]at C;have b9:=aa.out _ _ rfl M;have H1:=hid ((B.out.step g i M).below (zF x1 (.cells #[.int .i64 ck,.int .i64 cp,.int .i64 cn,.string ct] 102)));have av:=hid (Blk.new x1 102 #[.int .i64 ck,.int .i64 cp,.int .i64 cn,.string ct]);clear x g i B aa;(go_upto_region 11 with fail);generalize x1.alloc (.cells #[.int .i64 ck,.int .i64 cp,.int .i64 cn,.string ct] 102)=y1 at*;generalize x1.heap.size=CB at*;obtain⟨b0,bu,b1,bv,bl⟩:=H1.out.box.c2;obtain⟨c0,bw,c1,bx,c2,bz,c3,b2,cl⟩:=av.out.c4;by_cases hl:m.length=100
         ·(have e1:((m.length:Int)==(100:Int))=true:=by simp[hl]);have HE:=hid (show zLZ s ts= .error (2,cp) from by rw[u.out,<-C.out];simp[chk,hl,zj]);clear hl C;(go_wp2_with fail);exact zDO H1.out (zA.refl _ _) (z.out (2,cp) HE.out) rfl rfl rfl
         ·have e1:((m.length:Int)==(100:Int))=false:=by
           rw[beq_eq_false_iff_ne];omega
          have F:=hid (show(zj (zFV s ds (ts.drop k1)) λl=>zDh s ds Q (m++[l.1]) l.2)=X from by rw[<-C.out];simp[chk,hl,zj]);have bq:=hid hl;clear hl C;(go_upto_region 13 with fail);clear b0 b1 bu bv bl c0 c1 c2 c3 bw bx bz b2 cl e1;have HC:=hid (λ(W:World)(hW:Blk W w.heap.size 27 #[.slice DA ds.length dcap,.slice LA m.length lcap])=>(show W.cell? ⟨w.heap.size,0,none⟩=some (.slice DA ds.length dcap)/\W.cell? ⟨w.heap.size,1,none⟩=some (.slice LA m.length lcap)/\w.heap.size<W.heap.size from⟨hW.at0,hW.at1,hW.lt⟩));refine zL 9 (λW=>Blk W w.heap.size 27 #[.slice DA ds.length dcap,.slice LA m.length lcap]) (by kernel_rfl) ?_;have hS:(λW:World=>Blk W w.heap.size 27 #[.slice DA ds.length dcap,.slice LA m.length lcap]) y1.drew:=H1.out.box.drew;have Y:=hid (H1.out.below (Below.refl _ _).drew);clear H1 av;generalize y1.drew=z0 at*
          (refine tkZ 0 ?_ hS ?_ ?_ (hQ:=by exact λ_ _ _ h=>zBD rfl (by decide) h);rotate_left;intro w;go_simp;(try with_reducible rfl);simp only[nr])
          try simp only[nq]
          (refine tkS 1 ?_ hS ?_ ?_ (hQ:=by exact λ_ _ _ h=>zBD rfl (by decide) h);rotate_left;intro w J;obtain⟨d0,d1,dl⟩:=HC.out _ J;clear J;go_simp;(try with_reducible rfl);simp only[nr])
          try simp only[nq]
          (refine tkZ 2 ?_ hS ?_ ?_ (hQ:=by exact λ_ _ _ h=>zBD rfl (by decide) h);rotate_left;intro w;go_simp;(try with_reducible rfl);simp only[nr])
          try simp only[nq]
          (refine tkZ 3 ?_ hS ?_ ?_ (hQ:=by exact λ_ _ _ h=>zBD rfl (by decide) h);rotate_left;intro w;go_simp;(try with_reducible rfl);simp only[nr])
          try simp only[nq]
          (refine tkS 4 ?_ hS ?_ ?_ (hQ:=by exact λ_ _ _ h=>zBD rfl (by decide) h);rotate_left;intro w J;obtain⟨d0,d1,dl⟩:=HC.out _ J;clear J;go_simp;(try with_reducible rfl);simp only[nr])
          (try simp only[nq]);clear hS;refine wS1 5 (λK G=> ?_);(go_wp2_with fail);refine(zTY R s A cap ts k1 _ _ ds z0 hs Y.out.rd Y.out.toks M aj.out ab.out Y.out.dom (λb y=>⟨y.2.1,by omega⟩)).mono ?_;intro e z1 x;have ac:=hid (λ(l:zI)(r:List Tok)(h:zFV s ds (ts.drop k1)= .ok (l,r))=>zT6 h);generalize zFV s ds (ts.drop k1)=T at*
          cases T with
          |error f=>
           obtain⟨g,rfl⟩:=x.error_;exact zDO Y.out g (z.out f (by rw[u.out,<-F.out];rfl)) rfl rfl rfl
          |ok p=>
           obtain⟨g,v,rfl,hrel,k5,D,b6,i⟩:=x.ok_;obtain⟨l,rr⟩:=p;dsimp only at D hrel;obtain⟨FA,ad,rfl,ba⟩:=hrel;subst D;simp only[zAc]at F;have a9:=ac.out _ _ rfl;simp only[List.length_drop]at a9;have Z:=hid (Y.out.step g i b6);have bp:=hid ba;have b3:=Y.out.rl;have ay:=hid (λb y=>(Y.out.own.lt b y).2);clear x g i ba Y ac;refine G _ _ (Or.inr Z.out.box) ?_;clear G K;(try simp only[nq]);have a1:=Z.out.box.alloc (.cells #[.int .i64 l.when_.op,.string l.when_.name,.int .i64 l.when_.cmp,.int .i64 l.when_.num,.slice FA l.when_.kids.length ad,.string l.cls,.bool l.ctl] 42);refine wS1 6 (λK G=> ?_);(go_wp2_with fail);refine G _ _ (Or.inr a1) ?_;clear G K;(try simp only[nq]);have ci:=Z.out.rl;have b7:=Z.out.le;dsimp only at b7;refine wS1 7 (λK G=> ?_);refine zAz (.tmp 57) (.tmp 62) _ rfl underlying25 Tryz.eLine rfl (Z.out.own.alloc _) rfl (news:=[.int .i64 l.when_.op,.string l.when_.name,.int .i64 l.when_.cmp,.int .i64 l.when_.num,.slice FA l.when_.kids.length ad,.string l.cls,.bool l.ctl]) rfl (zCn (Blk.new _ _ _)) (by simp[Value.oneCell']) (by unfold maxLen;show m.length+1<=_;omega) (by show(m.length+1)*88<=_;omega) (by simp;omega) ?_;intro v6 x6 N a6 a2;obtain⟨bt,au,rfl,-⟩:=Row.of_own N (by decide);have HP:=hid (Z.out.push b3 ay.out bp.out rfl bq.out N a6 a2 (λ_ _=> .inr trivial));have I:=(a1).grown a6 (λe=>by have:=Z.out.rows e;have:=Z.out.lim;omega);refine G _ _ (Or.inr I) ?_;clear G K;(try simp only[nq]);have hS:=I
           (refine tkZ 8 ?_ hS ?_ ?_ (hQ:=by exact λ_ _ _ h=>zBD rfl (by decide) h);rotate_left;intro w;go_simp;(try with_reducible rfl);simp only[nr])
           (try simp only[nq]);obtain⟨d0,ao,d1,ap,dl⟩:=I.c2;refine wS1 9 (λK G=> ?_);(go_wp2_with fail);refine G _ _ (Or.inl rfl) ?_;clear G K;(try simp only[nq]);refine wSd ?_ _;(go_wp2_with fail);have ca:=bb.out;(go_roundg Q);(case measure=>have:=bo.out;omega);exact⟨k5,m++[l],bt,au,Q,csl++[_],rfl,HP,F,hid (by omega)⟩
       ·rw[decide_eq_false y]
        have V:=hid (show X= .ok m from by
         rw[<-P.out];simp only[zDh];rw[if_pos];(have h1:m≠[]:=λh=>y (.inl h));have h2:ts.drop k=[]:=List.drop_of_length_le (Nat.le_of_not_lt λh=>y (.inr h));refine⟨?_,by rw[h2];rfl⟩
         cases m with
         |nil=>exact absurd rfl h1
         |cons _ _=>rfl)
        have bs:=hid (br.out ⟨ds,m⟩ (by rw[u.out,V.out];rfl));clear y;obtain⟨d0,ao,d1,ap,dl⟩:=B.out.box.c2;obtain⟨e0,cd,el⟩:=B.out.err.c1;obtain⟨a0,cb,al⟩:=B.out.at_.c1;(go_wp2_with fail);exact zU4 B.out.ends bs.out rfl rfl rfl
theorem zIz(s:ByteArray)(w:World)(b:s.size<=140737488355328):Calls prog 23 #[.string s] w (zF7 s w):=by
 by_cases a:(zJ s).2.1=0
 ·exact zQN s w b a
 ·exact zSK s w b a
end Go.Proofs.YthpocbeoanipbaaGreatDoor
