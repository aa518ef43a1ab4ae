/- Texts W4 W34. -/
import Derived.Test.YthpocbeoanipbaaGreatDoorM9
import Derived.Test.YthpocbeoanipbaaGreatDoorM5
import Derived.Shelf.Abstract
import Derived.Test.YthpocbeoanipbaaGreatDoorM7
set_option linter.all false
namespace Go.Proofs.YthpocbeoanipbaaGreatDoor
open Go.RowKit Go.Proofs.Tryz
set_option maxHeartbeats 1000000
set_option maxRecDepth 100000
theorem zSY{ds:List zC}{nm:ByteArray}{i:Nat}(hi:i<ds.length):zFN ds nm i=decide (ds[i].name =nm):=by
 simp[zFN,List.getElem?_eq_getElem hi]
theorem zQn(B:Nat)(nm:ByteArray)(f:zC)(W:World)(b:W.cell? ⟨B,0,none⟩=some (.string nm)):
  Calls prog 65 #[.agg #[.string f.name,.int .i64 f.kind,.int .i64 f.lo,.int .i64 f.hi],.pointer (some ⟨B,0,none⟩)] W λe a=>e= .returned (.bool (decide (f.name=nm)))/\Bw W a:=by
 have c:B<W.heap.size:=lt_of_cell b;go_enter func65,ntmps65
 go_wp2;go_ret;exact⟨zAb (zAh _ _),(Below.refl _ _).alloc (Nat.le_refl _) _⟩
theorem zGV(Z:zE)(v:Value)(ds:List zC)(nm:ByteArray)(w:World)(t:Facts Z w v ds):
  Calls prog 35 #[.agg #[v],.string nm] w λe w'=>e= .returned (.int .i64 (zA1 ds nm))/\Bw w w':=by
 obtain⟨⟨A,b,rfl,k,_,c,n⟩,m⟩:=t;have q:∀a w,(callFunc 65 a).run prog w= .ok (.enter 65 a) w:=enters_of func65 (by kernel_rfl) rfl;have j:zA Z w ((w.alloc (.cells #[.slice A ds.length b] 24)).alloc (.cells #[.string nm] 9)):=((zA.refl _ _).alloc _).alloc _
 have o:=hid (zKd 65 #[.pointer (some ⟨w.heap.size+1,0,none⟩)] q (λd x=>d=zC.cells x) Z ds (zFN ds nm) A b ((w.alloc (.cells #[.slice A ds.length b] 24)).alloc (.cells #[.string nm] 9))
  (λd x h=>⟨_,_,_,_,h⟩) (n.imp (λ_ _ h=>h) j (λ_ h=>h)) (by omega) (λi u d g W s=>by
   subst g;rw[zSY u]
   exact zQn (w.heap.size+1) nm ds[i] W (by rw[s.cell (by simp)];simp)))
 clear n;go_enter func35,ntmps35
 go_wp2_with fail
 refine o.out.mono ?_;rintro e y ⟨rfl,f⟩;go_wp2;go_ret;exact⟨rfl,(((Below.refl _ _).alloc (Nat.le_refl _) _).alloc (by simp) _).trans (f.mono (by simp;omega))⟩
theorem zCX(Z:zE)(v vc:Value)(ds:List zC)(c:List Int)(w:World)(hd:Facts Z w v ds)(V:zK Z w vc c):
  Calls prog 13 #[.agg #[v],vc] w λe w'=>e= .returned (.bool (fits ds c))/\Bw w w':=by
 have F:=hd;obtain⟨⟨A,s,rfl,af,_,N,hs⟩,G⟩:=hd;have W:=V;obtain⟨⟨C,ad,rfl,X,O,ah,_⟩,_⟩:=W;have ab:zA Z w (w.alloc (.cells #[.slice A ds.length s] 24)):=(zA.refl _ _).alloc _;have R:=hid (zDB Z _ ds (w.alloc (.cells #[.slice A ds.length s] 24)) (F.keep ab));clear F;have HS:=hid hs;have Q:=hid V;clear hs V;go_enter func13,ntmps13
 by_cases B:zN ds=true
 ·by_cases K:c.length=ds.length
  ·have g:=hid B;(have ac:((c.length:Int)!=(ds.length:Int))=false:=by simp[K]);have HL:=hid K;clear B K;(go_wp2_with fail);refine R.out.mono ?_;rintro e M ⟨rfl,d⟩;rw[g.out];obtain⟨t,H⟩:=zH8 d;have j:Bw w M:=(zF w _).trans (d.mono (by simp));clear d;go_wp2;go_loopw[21] (λi wr=>∃k:Nat,k<=ds.length/\i= .int .i64 k/\wr.cell? ⟨w.heap.size,0,none⟩=some (.slice A ds.length s)/\Bw w wr/\Hid (zLy ds c k)) (λi _=>ds.length-(intOf i).toNat);case atStart=>exact⟨0,Nat.zero_le _,rfl,by rw[t _ _ (by simp)];simp,j,zR1 _ _⟩
   case round=>
    obtain⟨k,hk,rfl,u,a,I⟩:=hrel;by_cases m:k<ds.length
    ·obtain⟨b,ao,cs,rfl,hz,y,rfl⟩:=HS.out.at_ m;(have n:k<c.length:=by rw[HL.out];exact m);have U:b<w.heap.size:=lt_of_cell (zD5 y).1;obtain⟨c0,c1,c2,c3⟩:=zD5 (zBV a U y);clear y;obtain⟨b2,ag,rfl,al,T,D⟩:=Q.out.at_ n;have E:=brd a D T;have ae:b2<wr.heap.size:=lt_of_cell E;clear D;have q:=hid (λh=>zR2 I.out m n h);have o:=hid (λh=>zUH m n h);have ak:ds[k].fit :=G ds[k] (List.getElem_mem m);generalize ds[k]=f at*;generalize c[k]=x at*;obtain⟨nm,kd,lo,hi⟩:=f;simp only at c0 c1 c2 c3;(have aj:((k:Nat):Int)<(c.length:Int):=by omega);(have ai:(0:Int)<=(k:Int):=by omega);by_cases L:x<lo
     ·(have Y:decide (x<lo)=true:=by simpa using L);go_wp2;go_quiet(fail);go_wp2;go_ret;refine⟨zAb (o.out ?_).symm,?_⟩
      ·unfold inR;simp only[Bool.and_eq_false_iff,decide_eq_false_iff_not];left;omega
      ·exact below_drewN' (a.alloc a.size _) _
     ·(have Y:decide (x<lo)=false:=by simpa using L);by_cases J:hi<x
      ·(have aa:decide (hi<x)=true:=by simpa using J);go_wp2;go_quiet(fail);go_wp2;go_ret;refine⟨zAb (o.out ?_).symm,?_⟩
       ·unfold inR;simp only[Bool.and_eq_false_iff,decide_eq_false_iff_not];right;omega
       ·exact below_drewN' (a.alloc a.size _) _
      ·(have aa:decide (hi<x)=false:=by simpa using J);go_wp2;go_quiet(fail);go_wp2;go_roundw
       case rel=>
        refine⟨k+1,by omega,by go_num,?_,below_drewN' (a.alloc a.size _) _,q.out ?_⟩
        ·go_simp;exact zFM u _
        ·unfold inR;simp only[Bool.and_eq_true,decide_eq_true_eq];omega
       case measure=>simp[intOf];omega
    ·(obtain rfl:k=ds.length:=by omega);go_wp2;go_ret;exact⟨zAb (zOt g.out HL.out I.out).symm,a⟩
  ·(have P:Hid (fits ds c=false):=by simp[Hid,fits,K]);(have ac:((c.length:Int)!=(ds.length:Int))=true:=by simp;omega);have g:=hid B;clear B K;(go_wp2_with fail);refine R.out.mono ?_;rintro e M ⟨rfl,d⟩;rw[g.out];obtain⟨t,H⟩:=zH8 d;have j:Bw w M:=(zF w _).trans (d.mono (by simp));clear d;go_wp2;go_ret;exact⟨zAb P.out.symm,j⟩
 ·have z:zN ds=false:=by simpa using B
  have P:Hid (fits ds c=false):=by simp[Hid,fits,z]
  have g:=hid z;clear B z;go_wp2_with fail
  refine R.out.mono ?_;rintro e M ⟨rfl,d⟩;rw[g.out];obtain⟨t,H⟩:=zH8 d;have j:Bw w M:=(zF w _).trans (d.mono (by simp));clear d;go_wp2;go_ret;exact⟨zAb P.out.symm,j⟩
theorem Tryz.eInt:zB0 prog 3 1 8:=zBp (z:= .int .i64 0) (by kernel_rfl) rfl (by decide)
theorem zOD(Z:zE)(v:Value)(ds:List zC)(w:World)(I:Facts Z w v ds):
  Calls prog 68 #[.agg #[v]] w λe w'=>∃L,e= .returned L/\w'.ownsRow w.heap.size 3 1 L (zBj ds).length ((zBj ds).map (.int .i64))/\Bw w w':=by
 have q:=I;obtain⟨⟨A,o,rfl,H,_,u,K⟩,J⟩:=I;have E:zA Z w (w.alloc (.cells #[.slice A ds.length o] 24)):=(zA.refl _ _).alloc _;have F:=hid (zDB Z _ ds (w.alloc (.cells #[.slice A ds.length o] 24)) (q.keep E));clear q;have M:=hid K;clear K;go_enter func68,ntmps68
 by_cases x:zN ds=true
 ·have g:=hid x;clear x;go_wp2_with fail
  refine F.out.mono ?_;rintro e y ⟨rfl,d⟩;rw[g.out];obtain⟨B,C⟩:=zH8 d;have j:Bw w y:=(zF w _).trans (d.mono (by simp));clear d;go_wp2;go_loopw[3,12] (λc i wr=>∃k:Nat,k<=ds.length/\i= .int .i64 k/\wr.ownsRow w.heap.size 3 1 c k (((ds.take k).map zC.lo).map (.int .i64))/\Bw w wr) (λ_ i _=>ds.length-(intOf i).toNat);case atStart=>exact⟨0,Nat.zero_le _,rfl,World.ownsRow_nil _ _ _ _,j⟩
  case round=>
   obtain⟨k,T,rfl,h,a⟩:=hrel;by_cases s:k<ds.length
   ·obtain⟨b,P,Q,rfl,U,m,rfl⟩:=M.out.at_ s;have z:b<w.heap.size:=lt_of_cell (zD5 m).1;obtain⟨O,c1,c2,c3⟩:=zD5 (zBV a z m);clear m;have N:=hid (zAu s);generalize ds[k]=f at*;obtain⟨W,V,lo,R⟩:=f;simp only at O c1 c2 c3;go_wp2_with(at_builtin;refine z6 rfl (.tmp 16) (.tmp 19) _ rfl underlying29 Tryz.eInt rfl ((h.alloc _).alloc _) rfl (news:=[.int .i64 lo]) rfl (one_cell (by simp)) (by simp[Value.oneCell']) (by unfold maxLen;omega) (by omega) (by simp;have:=a.size;omega) ?_;intro X y n D G);go_roundw
    case rel=>
     refine⟨k+1,by omega,by go_num,?_,ze (((a.alloc a.size _).alloc (by simp;have:=a.size;omega) _)) ((h.alloc _).alloc _) D (by simp;have:=a.size;omega) (Nat.le_refl _)⟩;rw[N.out];simpa using n
    case measure=>simp[intOf];omega
   ·(obtain rfl:k=ds.length:=by omega);go_wp2;go_ret;refine⟨_,rfl,?_,a⟩;rw[zDl g.out];simpa using h
 ·have t:zN ds=false:=by simpa using x
  have g:=hid t;clear x t;go_wp2_with fail
  refine F.out.mono ?_;rintro e y ⟨rfl,d⟩;rw[g.out];obtain⟨B,C⟩:=zH8 d;have j:Bw w y:=(zF w _).trans (d.mono (by simp));clear d;go_wp2;go_ret;refine⟨_,rfl,?_,j⟩;rw[zR3 g.out];exact World.ownsRow_nil _ _ _ _
def zVl(P:Program)(g:FuncId)(lb:Array Value)(w:World)(xs:List Int)(p:Int->Bool):Prop:=
 ∀x∈xs,∀W,Bw w W->Calls P g (#[.int .i64 x]++lb) W λe W'=>e= .returned (.bool (p x))/\Bw W W'
theorem zGu(g:FuncId)(G:Array Value)(P:∀args w,(callFunc g args).run prog w= .ok (.enter g args) w)(Z:zE)(v:Value)(xs:List Int)(p:Int->Bool)(w:World)
  (F:zK Z w v xs)(E:zVl prog g G w xs p):
  Calls prog 69 #[v,.func (.func g) #[] G] w λe w'=>e= .returned (.int .i64 (firstIdx (λi=>p (xs.getD i 0)) xs.length 0))/\Bw w w':=by
 have I:=hid E;have J:=hid F;clear E;obtain⟨⟨A,K,rfl,C,z,D,-⟩,-⟩:=F;go_enter func69,ntmps69
 go_wp2;go_loopw[8] (λi wr=>∃k:Nat,k<=xs.length/\i= .int .i64 k/\Bw w wr/\Hid (∀j,0<=j->j<k->(λi=>p (xs.getD i 0)) j=false)) (λi _=>xs.length-(intOf i).toNat);case atStart=>exact⟨0,Nat.zero_le _,rfl,Below.refl _ _,λj _ h=>absurd h (Nat.not_lt_zero j)⟩
 case round=>
  obtain⟨k,Q,rfl,a,m⟩:=hrel;by_cases f:k<xs.length
  ·obtain⟨b,O,rfl,R,M,B⟩:=J.out.at_ f;have y:=brd a B M;have N:b<wr.heap.size:=lt_of_cell y;clear B;have H:=hid (I.out _ (List.getElem_mem f) _ a);have c:=hid a;(have t:xs.getD k 0=xs[k]:=by simp[List.getD_eq_getElem?_getD,f]);have o:=hid t;clear a t;cases n:p xs[k]
   all_goals
    have q:=hid n;have d:=H.out;rw[n]at d;clear n;have u:=hid d;clear d;(go_wp2_with fail);refine u.out.mono ?_;rintro e T ⟨rfl,s⟩;go_wp2
   ·go_roundw
    case rel=>exact⟨k+1,by omega,by go_num,(zD c.out s),λj x L=>by
     by_cases e:j=k
     ·subst e;show p (xs.getD j 0)=false;rw[o.out];exact q.out
     ·exact m.out j x (by omega)⟩
    case measure=>simp[intOf];omega
   ·go_ret;exact⟨zAp (zBx m.out (Nat.zero_le _) (by omega) (by show p (xs.getD k 0)=true;rw[o.out];exact q.out)).symm,zD c.out s⟩
  ·(obtain rfl:k=xs.length:=by omega);go_wp2;go_ret;exact⟨zAp (zCb (λj x L=>m.out j x (by omega))).symm,a⟩
theorem zO1(v:Int):∀(l:List Int)(i:Nat)(m:List Int),m.length=i->firstIdx (λj=>decide (v<(m++l).getD j 0)) l.length i=if nx l v<l.length then((i+nx l v:Nat):Int)else-1
 |[],i,m,h=>by simp[firstIdx,nx]
 |c::r,i,m,h=>by
  have e:(m++c::r).getD i 0=c:=by subst h;simp[List.getD_eq_getElem?_getD]
  have ih:=zO1 v r (i+1) (m++[c]) (by simp[h]);rw[show m++[c]++r=m++c::r by simp]at ih;rw[List.length_cons,firstIdx];simp only[e,decide_eq_true_eq];unfold nx;by_cases a:v<c
  ·rw[if_pos a,if_pos a,if_pos (by omega),Nat.add_zero]
  ·rw[if_neg a,if_neg a,ih];by_cases b:nx r v<r.length
   ·rw[if_pos b,if_pos (by omega)];congr 1;omega
   ·rw[if_neg b,if_neg (by omega)]
theorem zSZ(v:Int)(l:List Int):firstIdx (λj=>decide (v<l.getD j 0)) l.length 0=if nx l v<l.length then(nx l v:Int)else-1:=by
 have:=zO1 v l 0 [] rfl;simpa using this
theorem zS0(B:Nat)(v c:Int)(W:World)(b:W.cell? ⟨B,0,none⟩=some (.int .i64 v)):
  Calls prog 174 #[.int .i64 c,.pointer (some ⟨B,0,none⟩)] W λe a=>e= .returned (.bool (decide (v<c)))/\Bw W a:=by
 have d:B<W.heap.size:=lt_of_cell b;go_enter func174,ntmps174
 go_wp2;go_ret;exact⟨rfl,Below.refl _ _⟩
theorem zS1(Z:zE)(n:zB)(cs:List Value)(v:Int)(w:World)(J:zAP Z w cs n):
  Calls prog 146 #[.agg cs.toArray,.int .i64 v] w λe w'=>e= .returned (.int .i64 (nxL n v))/\Bw w w':=by
 obtain⟨u,B,rfl,M,x,I⟩:=J;have G:∀d w,(callFunc 174 d).run prog w= .ok (.enter 174 d) w:=enters_of func174 (by kernel_rfl) rfl;have s:zA Z w ((w.alloc (.cells #[.bool n.leaf,.int .i64 n.fact,u,B] 131)).alloc (.cells #[.int .i64 v] 3)):=((zA.refl _ _).alloc _).alloc _
 have i:=hid (zGu 174 #[.pointer (some ⟨w.heap.size+1,0,none⟩)] G Z u n.cuts (λc=>decide (v<c)) ((w.alloc (.cells #[.bool n.leaf,.int .i64 n.fact,u,B] 131)).alloc (.cells #[.int .i64 v] 3)) (x.keep s) (λc _ W H=>by
  refine zS0 (w.heap.size+1) v c W (by rw[H.cell (by simp)];simp)))
 rw[zSZ]at i;obtain⟨⟨A,F,rfl,y,m,z,-⟩,-⟩:=x;obtain⟨⟨D,j,rfl,o,k,t,-⟩,-⟩:=I;have g:nx n.cuts v<n.cuts.length->(nx n.cuts v:Int)<=17592186044416:=λh=>by omega
 have a:Hid (nxL n v=if nx n.cuts v<n.cuts.length then(nx n.cuts v:Int)else(n.kids.length:Int)-1):=hid rfl;by_cases h:nx n.cuts v<n.cuts.length
 ·have L:=g h;rw[if_pos h]at i a;have K:decide ((nx n.cuts v:Int)<0)=false:=by simp
  clear h g;generalize nx n.cuts v=q at*;go_enter func146,ntmps146
  go_wp2_with fail
  refine i.out.mono ?_;rintro e C ⟨rfl,b⟩;have f:=zD (zD (zF w _) (zF _ _)) b (by simp);go_wp2;go_ret;exact⟨zAp a.out.symm,f⟩
 ·rw[if_neg h]at i a;clear h g;go_enter func146,ntmps146
  go_wp2_with fail
  refine i.out.mono ?_;rintro e C ⟨rfl,b⟩;have f:=zD (zD (zF w _) (zF _ _)) b (by simp);have c3:C.cell? ⟨w.heap.size,3,none⟩=some (.slice D n.kids.length j):=by rw[b.cell (p:=⟨w.heap.size,3,none⟩) (by simp;omega)];simp
  have E:=lt_of_cell c3;go_wp2;go_ret;exact⟨zAp a.out.symm,f⟩
end Go.Proofs.YthpocbeoanipbaaGreatDoor
