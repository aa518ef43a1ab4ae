/- Lemmas. -/
import Derived.Test.YtommaegelgilnaaGreatDoorM4
import Derived.Test.YtommaegelgilnaaGreatDoorM15
set_option linter.all false
namespace Go.Proofs.YtommaegelgilnaaGreatDoor
open Go.RowKit Go.Proofs.Tryz
set_option maxHeartbeats 1000000
set_option maxRecDepth 100000
theorem zRR{ds:List zE}{nm:ByteArray}{i:Nat}(hi:i<ds.length):zFR ds nm i=decide (ds[i].name =nm):=by
 simp[zFR,List.getElem?_eq_getElem hi]
theorem zPl(B:Nat)(nm:ByteArray)(f:zE)(W:World)(b:W.cell? ⟨B,0,none⟩=some (.string nm)):
  Calls prog 206 #[.agg #[.string f.name,.int .i64 f.kind,.int .i64 f.lo,.int .i64 f.hi],.pointer (some ⟨B,0,none⟩)] W λe a=>e= .returned (.bool (decide (f.name=nm)))/\Bw W a:=by
 have c:B<W.heap.size:=lt_of_cell b;go_enter func206,ntmps206
 go_wp2;go_ret;exact⟨zI (zBK _ _),(Below.refl _ _).alloc (Nat.le_refl _) _⟩
theorem zIX(Z:zD)(v:Value)(ds:List zE)(nm:ByteArray)(w:World)(t:Facts Z w v ds):
  Calls prog 150 #[.agg #[v],.string nm] w λe w'=>e= .returned (.int .i64 (zBD ds nm))/\Bw w w':=by
 obtain⟨⟨A,b,rfl,k,_,c,n⟩,m⟩:=t;have q:∀a w,(callFunc 206 a).run prog w= .ok (.enter 206 a) w:=enters_of func206 (by kernel_rfl) rfl;have j:zA Z w ((w.alloc (.cells #[.slice A ds.length b] 25)).alloc (.cells #[.string nm] 9)):=((zA.refl _ _).alloc _).alloc _
 have o:=hid (zJ5 206 #[.pointer (some ⟨w.heap.size+1,0,none⟩)] q (λd x=>d=zE.cells x) Z ds (zFR ds nm) A b ((w.alloc (.cells #[.slice A ds.length b] 25)).alloc (.cells #[.string nm] 9))
  (λd x h=>⟨_,_,_,_,h⟩) (n.imp (λ_ _ h=>h) j (λ_ h=>h)) (by omega) (λi u d g W s=>by
   subst g;rw[zRR u]
   exact zPl (w.heap.size+1) nm ds[i] W (by rw[s.cell (by simp)];simp)))
 clear n;go_enter func150,ntmps150
 go_wp2_with fail
 refine o.mono ?_;rintro e y ⟨rfl,f⟩;go_wp2;go_ret;exact⟨rfl,(((Below.refl _ _).alloc (Nat.le_refl _) _).alloc (by simp) _).trans (f.mono (by simp;omega))⟩
theorem zIi(Z:zD)(v vc:Value)(ds:List zE)(c:List Int)(w:World)(hd:Facts Z w v ds)(V:zO Z w vc c):
  Calls prog 53 #[.agg #[v],vc] w λe w'=>e= .returned (.bool (fits ds c))/\Bw w w':=by
 have F:=hd;obtain⟨⟨A,s,rfl,af,_,N,hs⟩,G⟩:=hd;have W:=V;obtain⟨⟨C,ad,rfl,X,O,ah,_⟩,_⟩:=W;have ab:zA Z w (w.alloc (.cells #[.slice A ds.length s] 25)):=(zA.refl _ _).alloc _;have R:=hid (zDF Z _ ds (w.alloc (.cells #[.slice A ds.length s] 25)) (F.keep ab));clear F;have HS:=hid hs;have Q:=hid V;clear hs V;go_enter func53,ntmps53
 by_cases B:zT ds=true
 ·by_cases K:c.length=ds.length
  ·have g:=hid B;(have ac:((c.length:Int)!=(ds.length:Int))=false:=by simp[K]);have HL:=hid K;clear B K;(go_wp2_with fail);refine R.mono ?_;rintro e M ⟨rfl,d⟩;rw[g.out];obtain⟨t,H⟩:=zHB d;have j:Bw w M:=(zG w _).trans (d.mono (by simp));clear d;go_wp2;go_loopw[21] (λi wr=>∃k:Nat,k<=ds.length/\i= .int .i64 k/\wr.cell? ⟨w.heap.size,0,none⟩=some (.slice A ds.length s)/\Bw w wr/\Hid (zL0 ds c k)) (λi _=>ds.length-(intOf i).toNat);case atStart=>exact⟨0,Nat.zero_le _,rfl,by rw[t _ _ (by simp)];simp,j,zQu _ _⟩
   case round=>
    obtain⟨k,hk,rfl,u,a,I⟩:=hrel;by_cases m:k<ds.length
    ·obtain⟨b,ao,cs,rfl,hz,y,rfl⟩:=HS.at_ m;(have n:k<c.length:=by rw[HL.out];exact m);have U:b<w.heap.size:=lt_of_cell (zEP y).1;obtain⟨c0,c1,c2,c3⟩:=zEP (zDj a U y);clear y;obtain⟨b2,ag,rfl,al,T,D⟩:=Q.at_ n;have E:=brd a D T;have ae:b2<wr.heap.size:=lt_of_cell E;clear D;have q:=hid (λh=>zQv I m n h);have o:=hid (λh=>zTP m n h);have ak:ds[k].fit :=G ds[k] (List.getElem_mem m);generalize ds[k]=f at*;generalize c[k]=x at*;obtain⟨nm,kd,lo,hi⟩:=f;simp only at c0 c1 c2 c3;(have aj:((k:Nat):Int)<(c.length:Int):=by omega);(have ai:(0:Int)<=(k:Int):=by omega);by_cases L:x<lo
     ·(have Y:decide (x<lo)=true:=by simpa using L);go_wp2;go_quiet(fail);go_wp2;go_ret;refine⟨zI (o ?_).symm,?_⟩
      ·unfold inR;simp only[Bool.and_eq_false_iff,decide_eq_false_iff_not];left;omega
      exact below_drewN' (a.alloc a.size _) _
     (have Y:decide (x<lo)=false:=by simpa using L);by_cases J:hi<x
     ·(have aa:decide (hi<x)=true:=by simpa using J);go_wp2;go_quiet(fail);go_wp2;go_ret;refine⟨zI (o ?_).symm,?_⟩
      ·unfold inR;simp only[Bool.and_eq_false_iff,decide_eq_false_iff_not];right;omega
      exact below_drewN' (a.alloc a.size _) _
     (have aa:decide (hi<x)=false:=by simpa using J);go_wp2;go_quiet(fail);go_wp2;go_roundw
     case rel=>
      refine⟨k+1,by omega,by go_num,?_,below_drewN' (a.alloc a.size _) _,q ?_⟩
      ·go_simp;exact zD5 u _
      unfold inR;simp only[Bool.and_eq_true,decide_eq_true_eq];omega
     case measure=>simp[intOf];omega
    (obtain rfl:k=ds.length:=by omega);go_wp2;go_ret;exact⟨zI (zTO g HL I).symm,a⟩
  have P:Hid (fits ds c=false):=by simp[Hid,fits,K]
  have ac:((c.length:Int)!=(ds.length:Int))=true:=by simp;omega
  have g:=hid B;clear B K;go_wp2_with fail
  refine R.mono ?_;rintro e M ⟨rfl,d⟩;rw[g.out];obtain⟨t,H⟩:=zHB d;have j:Bw w M:=(zG w _).trans (d.mono (by simp));clear d;go_wp2;go_ret;exact⟨zI P.symm,j⟩
 have z:zT ds=false:=by simpa using B
 have P:Hid (fits ds c=false):=by simp[Hid,fits,z]
 have g:=hid z;clear B z;go_wp2_with fail
 refine R.mono ?_;rintro e M ⟨rfl,d⟩;rw[g.out];obtain⟨t,H⟩:=zHB d;have j:Bw w M:=(zG w _).trans (d.mono (by simp));clear d;go_wp2;go_ret;exact⟨zI P.symm,j⟩
theorem Tryz.eInt:zC2 prog 3 1 8:=zDH (z:= .int .i64 0) (by kernel_rfl) rfl (by decide)
theorem zMt(Z:zD)(v:Value)(ds:List zE)(w:World)(I:Facts Z w v ds):
  Calls prog 73 #[.agg #[v]] w λe w'=>∃L,e= .returned L/\w'.ownsRow w.heap.size 3 1 L (zCG ds).length ((zCG ds).map (.int .i64))/\Bw w w':=by
 have q:=I;obtain⟨⟨A,o,rfl,H,_,u,K⟩,J⟩:=I;have E:zA Z w (w.alloc (.cells #[.slice A ds.length o] 25)):=(zA.refl _ _).alloc _;have F:=hid (zDF Z _ ds (w.alloc (.cells #[.slice A ds.length o] 25)) (q.keep E));clear q;have M:=hid K;clear K;go_enter func73,ntmps73
 by_cases x:zT ds=true
 ·have g:=hid x;clear x;go_wp2_with fail
  refine F.mono ?_;rintro e y ⟨rfl,d⟩;rw[g.out];obtain⟨B,C⟩:=zHB d;have j:Bw w y:=(zG w _).trans (d.mono (by simp));clear d;go_wp2;go_loopw[3,12] (λc i wr=>∃k:Nat,k<=ds.length/\i= .int .i64 k/\wr.ownsRow w.heap.size 3 1 c k (((ds.take k).map zE.lo).map (.int .i64))/\Bw w wr) (λ_ i _=>ds.length-(intOf i).toNat);case atStart=>exact⟨0,Nat.zero_le _,rfl,World.ownsRow_nil _ _ _ _,j⟩
  case round=>
   obtain⟨k,T,rfl,h,a⟩:=hrel;by_cases s:k<ds.length
   ·obtain⟨b,P,Q,rfl,U,m,rfl⟩:=M.at_ s;have z:b<w.heap.size:=lt_of_cell (zEP m).1;obtain⟨O,c1,c2,c3⟩:=zEP (zDj a z m);clear m;have N:=hid (zXN s);generalize ds[k]=f at*;obtain⟨W,V,lo,R⟩:=f;simp only at O c1 c2 c3;go_wp2_with(at_builtin;refine zh rfl (.tmp 16) (.tmp 19) _ rfl underlying34 Tryz.eInt rfl ((h.alloc _).alloc _) rfl (news:=[.int .i64 lo]) rfl (one_cell (by simp)) (by simp[Value.oneCell']) (by unfold maxLen;omega) (by omega) (by simp;have:=a.size;omega) ?_;intro X y n D G);go_roundw
    case rel=>
     refine⟨k+1,by omega,by go_num,?_,zAs (((a.alloc a.size _).alloc (by simp;have:=a.size;omega) _)) ((h.alloc _).alloc _) D (by simp;have:=a.size;omega) (Nat.le_refl _)⟩;rw[N.out];simpa using n
    case measure=>simp[intOf];omega
   (obtain rfl:k=ds.length:=by omega);go_wp2;go_ret;refine⟨_,rfl,?_,a⟩;rw[zDk g.out];simpa using h
 have t:zT ds=false:=by simpa using x
 have g:=hid t;clear x t;go_wp2_with fail
 refine F.mono ?_;rintro e y ⟨rfl,d⟩;rw[g.out];obtain⟨B,C⟩:=zHB d;have j:Bw w y:=(zG w _).trans (d.mono (by simp));clear d;go_wp2;go_ret;refine⟨_,rfl,?_,j⟩;rw[zQw g.out];exact World.ownsRow_nil _ _ _ _
def zUX(P:Program)(g:FuncId)(lb:Array Value)(w:World)(xs:List Int)(p:Int->Bool):Prop:=
 ∀x∈xs,∀W,Bw w W->Calls P g (#[.int .i64 x]++lb) W λe W'=>e= .returned (.bool (p x))/\Bw W W'
theorem zG4(g:FuncId)(lb:Array Value)(O:∀args w,(callFunc g args).run prog w= .ok (.enter g args) w)(Z:zD)(v:Value)(xs:List Int)(p:Int->Bool)(w:World)
  (F:zO Z w v xs)(E:zUX prog g lb w xs p):
  Calls prog 74 #[v,.func (.func g) #[] lb] w λe w'=>e= .returned (.int .i64 (firstIdx (λi=>p (xs.getD i 0)) xs.length 0))/\Bw w w':=by
 have H:=hid E;have I:=hid F;clear E;obtain⟨⟨A,J,rfl,C,z,D,-⟩,-⟩:=F;go_enter func74,ntmps74
 go_wp2;go_loopw[8] (λi wr=>∃k:Nat,k<=xs.length/\i= .int .i64 k/\Bw w wr/\Hid (∀j,0<=j->j<k->(λi=>p (xs.getD i 0)) j=false)) (λi _=>xs.length-(intOf i).toNat);case atStart=>exact⟨0,Nat.zero_le _,rfl,Below.refl _ _,λj _ h=>absurd h (Nat.not_lt_zero j)⟩
 case round=>
  obtain⟨k,P,rfl,a,m⟩:=hrel;by_cases f:k<xs.length
  ·obtain⟨b,N,rfl,Q,L,B⟩:=I.at_ f;have y:=brd a B L;have M:b<wr.heap.size:=lt_of_cell y;clear B;have G:=hid (H _ (List.getElem_mem f) _ a);have c:=hid a;(have t:xs.getD k 0=xs[k]:=by simp[List.getD_eq_getElem?_getD,f]);have o:=hid t;clear a t;cases n:p xs[k]
   all_goals
    have q:=hid n;have d:=G.out;rw[n]at d;clear n;have u:=hid d;clear d;(go_wp2_with fail);refine u.mono ?_;rintro e R ⟨rfl,s⟩;go_wp2
   ·go_roundw
    case rel=>exact⟨k+1,by omega,by go_num,(zC c s),λj x K=>by
     by_cases e:j=k
     ·subst e;show p (xs.getD j 0)=false;rw[o.out];exact q.out
     exact m j x (by omega)⟩
    case measure=>simp[intOf];omega
   go_ret;exact⟨zAz (zCr m (Nat.zero_le _) (by omega) (by show p (xs.getD k 0)=true;rw[o.out];exact q)).symm,zC c s⟩
  obtain rfl:k=xs.length:=by omega
  go_wp2;go_ret;exact⟨zAz (zDd (λj x K=>m j x (by omega))).symm,a⟩
theorem zN1(v:Int):∀(l:List Int)(i:Nat)(m:List Int),m.length=i->firstIdx (λj=>decide (v<(m++l).getD j 0)) l.length i=if nx l v<l.length then((i+nx l v:Nat):Int)else-1
 |[],i,m,h=>by simp[firstIdx,nx]
 |c::r,i,m,h=>by
  have e:(m++c::r).getD i 0=c:=by subst h;simp[List.getD_eq_getElem?_getD]
  have ih:=zN1 v r (i+1) (m++[c]) (by simp[h]);rw[show m++[c]++r=m++c::r by simp]at ih;rw[List.length_cons,firstIdx];simp only[e,decide_eq_true_eq];unfold nx;by_cases a:v<c
  ·rw[if_pos a,if_pos a,if_pos (by omega),Nat.add_zero]
  rw[if_neg a,if_neg a,ih];by_cases b:nx r v<r.length
  ·rw[if_pos b,if_pos (by omega)];congr 1;omega
  rw[if_neg b,if_neg (by omega)]
theorem zRS(v:Int)(l:List Int):firstIdx (λj=>decide (v<l.getD j 0)) l.length 0=if nx l v<l.length then(nx l v:Int)else-1:=by
 have:=zN1 v l 0 [] rfl;simpa using this
theorem zRT(B:Nat)(v c:Int)(W:World)(b:W.cell? ⟨B,0,none⟩=some (.int .i64 v)):
  Calls prog 219 #[.int .i64 c,.pointer (some ⟨B,0,none⟩)] W λe a=>e= .returned (.bool (decide (v<c)))/\Bw W a:=by
 have d:B<W.heap.size:=lt_of_cell b;go_enter func219,ntmps219
 go_wp2;go_ret;exact⟨rfl,Below.refl _ _⟩
theorem zRU(Z:zD)(n:zB)(cs:List Value)(v:Int)(w:World)(J:zAY Z w cs n):
  Calls prog 169 #[.agg cs.toArray,.int .i64 v] w λe w'=>e= .returned (.int .i64 (nxL n v))/\Bw w w':=by
 obtain⟨u,B,rfl,M,x,I⟩:=J;have G:∀d w,(callFunc 219 d).run prog w= .ok (.enter 219 d) w:=enters_of func219 (by kernel_rfl) rfl;have s:zA Z w ((w.alloc (.cells #[.bool n.leaf,.int .i64 n.fact,u,B] 123)).alloc (.cells #[.int .i64 v] 3)):=((zA.refl _ _).alloc _).alloc _
 have i:=hid (zG4 219 #[.pointer (some ⟨w.heap.size+1,0,none⟩)] G Z u n.cuts (λc=>decide (v<c)) ((w.alloc (.cells #[.bool n.leaf,.int .i64 n.fact,u,B] 123)).alloc (.cells #[.int .i64 v] 3)) (x.keep s) (λc _ W H=>by
  refine zRT (w.heap.size+1) v c W (by rw[H.cell (by simp)];simp)))
 rw[zRS]at i;obtain⟨⟨A,F,rfl,y,m,z,-⟩,-⟩:=x;obtain⟨⟨D,j,rfl,o,k,t,-⟩,-⟩:=I;have g:nx n.cuts v<n.cuts.length->(nx n.cuts v:Int)<=17592186044416:=λh=>by omega
 have a:Hid (nxL n v=if nx n.cuts v<n.cuts.length then(nx n.cuts v:Int)else(n.kids.length:Int)-1):=hid rfl;by_cases h:nx n.cuts v<n.cuts.length
 ·have L:=g h;rw[if_pos h]at i a;have K:decide ((nx n.cuts v:Int)<0)=false:=by simp
  clear h g;generalize nx n.cuts v=q at*;go_enter func169,ntmps169
  go_wp2_with fail
  refine i.mono ?_;rintro e C ⟨rfl,b⟩;have f:=zC (zC (zG w _) (zG _ _)) b (by simp);go_wp2;go_ret;exact⟨zAz a.symm,f⟩
 rw[if_neg h]at i a;clear h g;go_enter func169,ntmps169
 go_wp2_with fail
 refine i.mono ?_;rintro e C ⟨rfl,b⟩;have f:=zC (zC (zG w _) (zG _ _)) b (by simp);have c3:C.cell? ⟨w.heap.size,3,none⟩=some (.slice D n.kids.length j):=by rw[b.cell (p:=⟨w.heap.size,3,none⟩) (by simp;omega)];simp
 have E:=lt_of_cell c3;go_wp2;go_ret;exact⟨zAz a.symm,f⟩
end Go.Proofs.YtommaegelgilnaaGreatDoor
