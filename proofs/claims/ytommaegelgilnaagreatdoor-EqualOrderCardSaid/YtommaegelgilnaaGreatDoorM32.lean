/- Lemmas. -/
import Derived.Test.YtommaegelgilnaaGreatDoorM19
import Derived.Test.YtommaegelgilnaaGreatDoorM29
set_option linter.all false
namespace Go.Proofs.YtommaegelgilnaaGreatDoor
open Go.RowKit Go.Proofs.Tryz
set_option maxHeartbeats 8000000
set_option maxRecDepth 100000
theorem zF5(t:Int)(w:World):Calls prog 104 #[.int .i64 t] w λe w'=>e= .returned (.bool (zEM t))/\w=w':=by
 have g:=hid (show zEM t=(decide (0<=t)&&decide (t<=100000)) from by unfold zEM;rw[Bool.eq_iff_iff];simp);generalize zEM t=b at*;go_enter func104,ntmps104
 repeat' (first|(go_big_may;fail)|((with_reducible apply zBU);rfl;first|((with_reducible apply zBT);rfl;rfl;rfl;exact zAn.app;intro i f;(simp only[nr]))|((with_reducible apply zAF);rfl;rfl;rfl;exact(by constructor);(intro a;(try simp only[Bool.and_eq_true,Bool.not_eq_true']at a);(first|subst a|(obtain⟨c,d⟩:=a;subst c;subst d)|(obtain⟨⟨c,d⟩,h⟩:=a;subst c;subst d;subst h));(try simp only[zm,z7,Bool.not_true,Bool.not_false,Bool.true_and,Bool.false_and,Bool.and_self]);go_simp;with_reducible rfl);(simp only[nr])))|((with_reducible apply zAj);rfl;rfl;first|((with_reducible apply zAg);rfl;rfl;rfl;rfl;(simp only[nr]))|((with_reducible apply zAh);rfl;rfl;rfl;rfl;(simp only[nr]))|((with_reducible apply zAR);rfl;rfl;rfl;rfl;rfl;(simp only[nr]))|((with_reducible apply zA7);rfl;rfl;rfl;rfl;rfl;(simp only[nr])))|go_values|go_guarded|go_step|go_upon|go_back|dsimp only)
 go_ret;exact⟨zI (by rw[g.out,f.out]),rfl⟩
theorem zCs(t:Int)(w:World):Calls prog 124 #[.int .i64 t] w λe w'=>e= .returned (.bool (zCN t))/\w=w':=by
 have g:=hid (show zCN t=(decide (0<=t)&&decide (t<=144001439)) from rfl);generalize zCN t=b at*;go_enter func124,ntmps124
 repeat' (first|(go_big_may;fail)|((with_reducible apply zBU);rfl;first|((with_reducible apply zBT);rfl;rfl;rfl;exact zAn.app;intro i f;(simp only[nr]))|((with_reducible apply zAF);rfl;rfl;rfl;exact(by constructor);(intro a;(try simp only[Bool.and_eq_true,Bool.not_eq_true']at a);(first|subst a|(obtain⟨c,d⟩:=a;subst c;subst d)|(obtain⟨⟨c,d⟩,h⟩:=a;subst c;subst d;subst h));(try simp only[zm,z7,Bool.not_true,Bool.not_false,Bool.true_and,Bool.false_and,Bool.and_self]);go_simp;with_reducible rfl);(simp only[nr])))|((with_reducible apply zAj);rfl;rfl;first|((with_reducible apply zAg);rfl;rfl;rfl;rfl;(simp only[nr]))|((with_reducible apply zAh);rfl;rfl;rfl;rfl;(simp only[nr]))|((with_reducible apply zAR);rfl;rfl;rfl;rfl;rfl;(simp only[nr]))|((with_reducible apply zA7);rfl;rfl;rfl;rfl;rfl;(simp only[nr])))|go_values|go_guarded|go_step|go_upon|go_back|dsimp only)
 go_ret;exact⟨zI (by rw[g.out,f.out]),rfl⟩
theorem zLE(v x y z A B C D:Value)(m:zF)(w:World):
  Calls prog 61 #[.agg #[v,x,.int .i64 m.kind,y,z,A,B,C,D,.int .i64 m.from_,.int .i64 m.until_,.int .i64 m.wind]] w λe w'=>e= .returned (.bool (zCD m))/\Bw w w':=by
 have i:=hid (show zCD m=(zEM m.from_&&decide (0<=m.wind)&&decide (m.wind<=400)&&(decide (m.wind<=0)||decide (m.kind=1))&&(decide (m.until_= -1)||zEM m.until_&&decide (m.from_<m.until_))) from rfl);generalize zCD m=d at*;obtain⟨id,au,u,tg,wh,t,un,c⟩:=m;dsimp only at i⊢;have s:=hid (zG w (.cells #[v,x,.int .i64 u,y,z,A,B,C,D,.int .i64 t,.int .i64 un,.int .i64 c] 54));have I:=hid (Blk.new w 54 #[v,x,.int .i64 u,y,z,A,B,C,D,.int .i64 t,.int .i64 un,.int .i64 c]);go_enter func61,ntmps61
 go_upto_region 1 with fail
 generalize w.alloc (.cells #[v,x,.int .i64 u,y,z,A,B,C,D,.int .i64 t,.int .i64 un,.int .i64 c] 54)=w1 at*;have a:=I.out;have p0:=a.at0;have R:=a.frozen 0;have p1:=a.at1;have T:=a.frozen 1;have p2:=a.at2;have U:=a.frozen 2;have p3:=a.at3;have V:=a.frozen 3;have p4:=a.at4;have W:=a.frozen 4;have p5:=a.cell 5;have X:=a.frozen 5;have p6:=a.cell 6;have Y:=a.frozen 6;have p7:=a.cell 7;have Z:=a.frozen 7;have p8:=a.cell 8;have aa:=a.frozen 8;have p9:=a.cell 9;have ab:=a.frozen 9;have P:=a.cell 10;have L:=a.frozen 10;have Q:=a.cell 11;have M:=a.frozen 11;have pl:=a.lt;clear a;clear I;obtain⟨j,o⟩:∃b,zEM t=b:=⟨_,rfl⟩;obtain⟨E,q⟩:∃b,zEM un=b:=⟨_,rfl⟩;rw[o,q]at i;have f:=hid o;have g:=hid q;clear o q
 have O:j=false\/(j=true/\c<0)\/(j=true/\¬c<0/\400<c)\/(j=true/\¬c<0/\¬400<c/\0<c/\¬u=1)\/(j=true/\¬c<0/\¬400<c/\0<c/\u=1)\/(j=true/\¬c<0/\¬400<c/\¬0<c):=by
  cases j<;>simp<;>omega
 have K:un= -1\/(¬un= -1/\E=false)\/(¬un= -1/\E=true/\¬t<un)\/(¬un= -1/\E=true/\t<un):=by
  cases E<;>simp<;>omega
 rcases O with h|⟨h,F⟩|⟨h,F,G⟩|⟨h,F,G,J,N⟩|⟨h,F,G,J,N⟩|⟨h,F,G,J⟩
 ·subst h;go_wp2_with(go_at_call 104;refine(zF5 _ _).mono ?_;rintro e w' ⟨rfl,rfl⟩;first|rw[f.out]|rw[g.out]);go_ret;exact⟨zI (by rw[i.out];grind),s⟩
 ·subst h;go_wp2_with(go_at_call 104;refine(zF5 _ _).mono ?_;rintro e w' ⟨rfl,rfl⟩;first|rw[f.out]|rw[g.out]);go_ret;exact⟨zI (by rw[i.out];grind),s⟩
 ·subst h;go_wp2_with(go_at_call 104;refine(zF5 _ _).mono ?_;rintro e w' ⟨rfl,rfl⟩;first|rw[f.out]|rw[g.out]);go_ret;exact⟨zI (by rw[i.out];grind),s⟩
 ·subst h;go_wp2_with(go_at_call 104;refine(zF5 _ _).mono ?_;rintro e w' ⟨rfl,rfl⟩;first|rw[f.out]|rw[g.out]);go_ret;exact⟨zI (by rw[i.out];grind),s⟩
 ·subst h;rcases K with k|⟨k,n⟩|⟨k,n,H⟩|⟨k,n,H⟩;all_goals try subst n
  all_goals
   go_wp2_with(go_at_call 104;refine(zF5 _ _).mono ?_;rintro e w' ⟨rfl,rfl⟩;first|rw[f.out]|rw[g.out]);go_ret;exact⟨zI (by rw[i.out];grind),s⟩
 ·subst h;rcases K with k|⟨k,n⟩|⟨k,n,H⟩|⟨k,n,H⟩;all_goals try subst n
  all_goals
   go_wp2_with(go_at_call 104;refine(zF5 _ _).mono ?_;rintro e w' ⟨rfl,rfl⟩;first|rw[f.out]|rw[g.out]);go_ret;exact⟨zI (by rw[i.out];grind),s⟩
theorem zRo(Z:zD)(I J K L M N O P:Value)(m:zF)(v:Value)(z:zp)(w:World)(h:zB4 Z w v z)(hz:∀b,Z b->b<w.heap.size):
  Calls prog 123 #[.agg #[I,J,.int .i64 m.kind,K,L,M,N,O,P,.int .i64 m.from_,.int .i64 m.until_,.int .i64 m.wind],.agg #[v]] w λe w'=>
   e= .returned (.tuple #[.int .i64 (zCx m z).1,.int .i64 (zCx m z).2.1,.int .i64 (zCx m z).2.2])/\Bw w w':=by
 have HD:=hid (λW=>zLE I J K L M N O P m W);have HV:=hid (λW(y:Bw w W)=>zGG Z v z W (h.keep (.of_below_lt y λb _ c=>hz b c)));have Y:=hid (λd W(y:Bw w W)=>zHn Z v z d W (h.keep (.of_below_lt y λb _ c=>hz b c)) (λb c=>Nat.lt_of_lt_of_le (hz b c) y.size));obtain⟨A,x,rfl,hl⟩:=h.form
 have k:=hid (show zCx m z=(if zCD m=false\/zBn z=false then(0,0,1)
  else if(zA4 z m.from_).2≠0 then(0,0,10)
  else((zA4 z m.from_).1,if m.until_<0\/(zA4 z m.until_).2≠0 then-1 else(zA4 z m.until_).1,0)) from rfl)
 generalize zCx m z=sp at*;generalize zCD m=d at*;generalize zBn z=vz at*;obtain⟨id,au,kd,tg,wh,Q,un,wi⟩:=m;dsimp only at k HD Y⊢;have q:=hid (λW y=>Y Q W y);have s:=hid (λW y=>Y un W y);obtain⟨⟨t1,e1⟩,T⟩:∃r,zA4 z Q=r:=⟨_,rfl⟩;obtain⟨⟨t2,e2⟩,U⟩:∃r,zA4 z un=r:=⟨_,rfl⟩;rw[T]at q k;rw[U]at s k;dsimp only at q s k;clear T U Y h hz;have HB:=hid ((zG w (.cells #[I,J,.int .i64 kd,K,L,M,N,O,P,.int .i64 Q,.int .i64 un,.int .i64 wi] 54)).alloc (by simp) (.cells #[.slice A z.length x] 100));have HX:=hid ((Blk.new w 54 #[I,J,.int .i64 kd,K,L,M,N,O,P,.int .i64 Q,.int .i64 un,.int .i64 wi]).alloc (.cells #[.slice A z.length x] 100));have hY:=Blk.new (w.alloc (.cells #[I,J,.int .i64 kd,K,L,M,N,O,P,.int .i64 Q,.int .i64 un,.int .i64 wi] 54)) 100 #[.slice A z.length x];rw[World.size_alloc]at hY;have HY:=hid hY;clear hY;go_enter func123,ntmps123
 go_upto_region 1 with fail
 generalize (w.alloc (.cells #[I,J,.int .i64 kd,K,L,M,N,O,P,.int .i64 Q,.int .i64 un,.int .i64 wi] 54)).alloc (.cells #[.slice A z.length x] 100)=w1 at*;have a:=HX.out;have p0:=a.at0;have ac:=a.frozen 0;have p1:=a.at1;have ad:=a.frozen 1;have p2:=a.at2;have ae:=a.frozen 2;have p3:=a.at3;have af:=a.frozen 3;have p4:=a.at4;have ag:=a.frozen 4;have p5:=a.cell 5;have ah:=a.frozen 5;have p6:=a.cell 6;have ai:=a.frozen 6;have p7:=a.cell 7;have aj:=a.frozen 7;have p8:=a.cell 8;have ak:=a.frozen 8;have p9:=a.cell 9;have al:=a.frozen 9;have aa:=a.cell 10;have V:=a.frozen 10;have ab:=a.cell 11;have X:=a.frozen 11;have pl:=a.lt;clear a;obtain⟨G,f,H⟩:=HY.out.d1;go_wp2_with fail
 refine(HD _).mono ?_;rintro e w2 ⟨rfl,c⟩;have g:=hid (zC HB c);have C:=hid (HX.below c HX.lt);have t:=hid (HY.below c HY.lt);clear c HB HX HY HD p0 p1 p2 p3 p4 p5 p6 p7 p8 p9 aa ab pl ac ad ae af ag ah ai aj ak al V X G f H;cases d
 ·go_wp2_with fail
  go_ret3;exact⟨by rw[k.out];rfl,g⟩
 ·have hq:=g.out;obtain⟨G,f,H⟩:=t.out.d1;go_wp2_with fail
  refine(HV _ g).mono ?_;rintro e w3 ⟨rfl,c⟩;have n:=hid (zC g c);have i:=hid (C.below c C.lt);have u:=hid (t.below c t.lt);clear c g C t HV G f H;cases vz
  ·(go_wp2_with fail);go_ret3;exact⟨by rw[k.out];rfl,n⟩
  ·have x9:=i.cell 9;have xl:=i.lt;obtain⟨G,f,H⟩:=u.out.d1;(go_wp2_with fail);refine(q _ n).mono ?_;rintro e w4 ⟨rfl,c⟩;have o:=hid (zC n c);have j:=hid (i.below c i.lt);have R:=hid (u.below c u.lt);clear c n i u q x9 xl G f H;by_cases E:e1=0
   ·subst E;have ao:=j.cell 10;have xl:=j.lt;obtain⟨G,f,H⟩:=R.out.d1;(go_wp2_with fail);refine(s _ o).mono ?_;rintro e w5 ⟨rfl,c⟩;have B:=hid (zC o c);have D:=j.below c j.lt;have ap:=D.cell 10;have av:=D.lt;clear c o j R s ao xl G f H D;by_cases hu:un<0
    ·(go_wp2_with fail);go_ret3;exact⟨by rw[k.out];simp[hu],B⟩
    ·have HU:=hid hu;by_cases F:e2=0
     ·subst F;(go_wp2_with fail);go_ret3;exact⟨by rw[k.out];have hU:=HU.out;simp;omega,B⟩
     ·(have ar:((e2:Int)!=(0:Int))=true:=by simp[F]);(go_wp2_with fail);go_ret3;exact⟨by rw[k.out];simp[F],B⟩
   ·(have aq:((e1:Int)!=(0:Int))=true:=by simp[E]);(go_wp2_with fail);go_ret3;exact⟨by rw[k.out];simp[E],o⟩
theorem zJC(Z:zD)(G H I J K L M N:Value)(m:zF)(v:Value)(z:zp)(sg c:Int)(w:World)(h:zB4 Z w v z)(hz:∀b,Z b->b<w.heap.size):
  Calls prog 69 #[.agg #[G,H,.int .i64 m.kind,I,J,K,L,M,N,.int .i64 m.from_,.int .i64 m.until_,.int .i64 m.wind],.agg #[v],.int .i64 sg,.int .i64 c] w λe w'=>
   e= .returned (.bool (zD2 m z sg c))/\Bw w w':=by
 have X:=hid (λW(hW:Bw w W)=>zRo Z G H I J K L M N m v z W (h.keep (.of_below_lt hW λb _ f=>hz b f)) (λb f=>Nat.lt_of_lt_of_le (hz b f) hW.size));have V:=hid (λW(hW:Bw w W)=>zHn Z v z (m.from_+m.wind) W (h.keep (.of_below_lt hW λb _ f=>hz b f)) (λb f=>Nat.lt_of_lt_of_le (hz b f) hW.size));obtain⟨A,s,rfl,hl⟩:=h.form
 have q:=hid (λ(h:(zCx m z).2.2=0)=>(show 0<=m.from_/\m.from_<=100000/\0<=m.wind/\m.wind<=400 from by
  unfold zCx at h;split at h
  ·exact absurd h (by decide)
  ·rename_i n
   have o:zCD m=true:=by cases hd:zCD m with
    |true=>rfl
    |false=>exact absurd (.inl hd) n
   unfold zCD zEM at o;simp only[Bool.and_eq_true,Bool.or_eq_true,decide_eq_true_eq]at o;obtain⟨⟨⟨⟨⟨Q,R⟩,T⟩,h7⟩,_⟩,_⟩:=o
   exact⟨Q,R,T,h7⟩))
 have j:=hid (show zD2 m z sg c=(if(zCx m z).2.2≠0\/zCN sg=false\/zCN c=false\/c<(zCx m z).1\/(0<=(zCx m z).2.1/\(zCx m z).2.1<=c)then false
  else if(zCx m z).1<=sg then true
  else decide ((zA4 z (m.from_+m.wind)).2=0)&&decide ((zA4 z (m.from_+m.wind)).1<=c)) from rfl)
 generalize zD2 m z sg c=ap at*;obtain⟨⟨t1,t,C⟩,ab⟩:∃r,zCx m z=r:=⟨_,rfl⟩;obtain⟨⟨t3,e3⟩,aa⟩:∃r,zA4 z (m.from_+m.wind)=r:=⟨_,rfl⟩;rw[ab]at j X q;rw[aa]at j V;dsimp only at j X V q;obtain⟨id,au,kd,tg,wh,P,un,U⟩:=m;dsimp only at j X V q⊢;clear ab aa h hz;have HB:=hid ((zG w (.cells #[G,H,.int .i64 kd,I,J,K,L,M,N,.int .i64 P,.int .i64 un,.int .i64 U] 54)).alloc (by simp) (.cells #[.slice A z.length s] 100));have HX:=hid ((Blk.new w 54 #[G,H,.int .i64 kd,I,J,K,L,M,N,.int .i64 P,.int .i64 un,.int .i64 U]).alloc (.cells #[.slice A z.length s] 100));have hY:=Blk.new (w.alloc (.cells #[G,H,.int .i64 kd,I,J,K,L,M,N,.int .i64 P,.int .i64 un,.int .i64 U] 54)) 100 #[.slice A z.length s];rw[World.size_alloc]at hY;have HY:=hid hY;clear hY;go_enter func69,ntmps69
 go_upto_region 1 with fail
 generalize (w.alloc (.cells #[G,H,.int .i64 kd,I,J,K,L,M,N,.int .i64 P,.int .i64 un,.int .i64 U] 54)).alloc (.cells #[.slice A z.length s] 100)=w1 at*;have a:=HX.out;have p0:=a.at0;have ak:=a.frozen 0;have p1:=a.at1;have al:=a.frozen 1;have p2:=a.at2;have ao:=a.frozen 2;have p3:=a.at3;have aq:=a.frozen 3;have p4:=a.at4;have ar:=a.frozen 4;have p5:=a.cell 5;have av:=a.frozen 5;have p6:=a.cell 6;have aw:=a.frozen 6;have p7:=a.cell 7;have ax:=a.frozen 7;have p8:=a.cell 8;have ay:=a.frozen 8;have p9:=a.cell 9;have az:=a.frozen 9;have ai:=a.cell 10;have ac:=a.frozen 10;have aj:=a.cell 11;have ad:=a.frozen 11;have pl:=a.lt;clear a;obtain⟨q0,ae,ql⟩:=HY.out.d1;go_wp2_with fail
 refine(X _ HB).mono ?_;rintro e w2 ⟨rfl,f⟩;have d:=hid (zC HB f);have B:=hid (HX.below f HX.lt);have ag:=hid (HY.below f HY.lt);clear f HB HX HY X p0 p1 p2 p3 p4 p5 p6 p7 p8 p9 ai aj pl ak al ao aq ar av aw ax ay az ac ad q0 ae ql;obtain⟨O,D⟩:∃b,zCN sg=b:=⟨_,rfl⟩;obtain⟨Y,E⟩:∃b,zCN c=b:=⟨_,rfl⟩;rw[D,E]at j;have g:=hid D;have i:=hid E;clear D E
 have hc:(¬C=0)\/(C=0/\O=false)\/(C=0/\O=true/\Y=false)\/(C=0/\O=true/\Y=true/\c<t1)\/(C=0/\O=true/\Y=true/\¬c<t1/\0<=t/\t<=c)\/(C=0/\O=true/\Y=true/\¬c<t1/\¬(0<=t/\t<=c)):=by
  cases O<;>cases Y<;>simp<;>omega
 rcases hc with k|⟨k,n⟩|⟨k,n,o⟩|⟨k,n,o,Q⟩|⟨k,n,o,Q,R,T⟩|⟨k,n,o,Q,R⟩
 ·have a2:((C:Int)==(0:Int))=false:=by simp[k]
  go_wp2_with fail
  go_ret;exact⟨zI (by rw[j.out];simp[k]),d⟩
 ·subst k n;go_wp2_with(go_at_call 124;refine(zCs _ _).mono ?_;rintro e w' ⟨rfl,rfl⟩;first|rw[g.out]|rw[i.out]);go_ret;exact⟨zI (by rw[j.out];simp[]),d⟩
 ·subst k n o;go_wp2_with(go_at_call 124;refine(zCs _ _).mono ?_;rintro e w' ⟨rfl,rfl⟩;first|rw[g.out]|rw[i.out]);go_ret;exact⟨zI (by rw[j.out];simp[]),d⟩
 ·subst k n o;go_wp2_with(go_at_call 124;refine(zCs _ _).mono ?_;rintro e w' ⟨rfl,rfl⟩;first|rw[g.out]|rw[i.out]);go_ret;exact⟨zI (by rw[j.out];simp[Q]),d⟩
 ·subst k n o;go_wp2_with(go_at_call 124;refine(zCs _ _).mono ?_;rintro e w' ⟨rfl,rfl⟩;first|rw[g.out]|rw[i.out]);go_ret;exact⟨zI (by rw[j.out];simp[R,T]),d⟩
 ·subst k n o;obtain⟨ba,bb,bc,bd⟩:=q rfl;have ah:¬0<=t\/(0<=t/\¬t<=c):=by omega
  have u:=hid (show ¬(0<=t/\t<=c) from R);have y:=hid Q;clear R;have bf:IntKind.i64.wrap (P+U)=P+U:=by rw[IntKind.wrap_i64];omega
  rcases ah with T|⟨T,h7⟩
  all_goals
   have H6:=hid T;by_cases hs:t1<=sg
   ·go_wp2_with(go_at_call 124;refine(zCs _ _).mono ?_;rintro e w' ⟨rfl,rfl⟩;first|rw[g.out]|rw[i.out]);go_ret;exact⟨zI (by rw[j.out];simp[u.out,y.out,hs]),d⟩
   ·have x9:=B.cell 9;have bg:=B.cell 11;have xl:=B.lt;obtain⟨q0,ae,ql⟩:=ag.out.d1;by_cases F:e3=0
    ·subst F;have x:=hid hs;go_wp2_with(first|(go_at_call 124;refine(zCs _ _).mono ?_;rintro e w' ⟨rfl,rfl⟩;first|rw[g.out]|rw[i.out])|(go_at_call 105;refine(V _ d).mono ?_;rintro e w3 ⟨rfl,f⟩));go_ret;exact⟨zI (by rw[j.out];have k:=u.out;have n:=y.out;have o:=x.out;simp;grind),zC d f⟩
    ·have x:=hid hs;have af:=hid F;(have a9:((e3:Int)==(0:Int))=false:=by simp[F]);go_wp2_with(first|(go_at_call 124;refine(zCs _ _).mono ?_;rintro e w' ⟨rfl,rfl⟩;first|rw[g.out]|rw[i.out])|(go_at_call 105;refine(V _ d).mono ?_;rintro e w3 ⟨rfl,f⟩));go_ret;exact⟨zI (by rw[j.out];simp[u.out,y.out,x.out,af.out]),zC d f⟩
section
open Go.Shelf
theorem zQY{α:Type}{l:List α}{k:Nat}{P:α->Prop}(c:k<l.length)(h:∀p∈l.take k,P p)(d:P l[k]):∀p∈l.take (k+1),P p:=by
 intro p a;rw[List.take_succ_eq_append_getElem c]at a;rcases List.mem_append.1 a with b|b
 ·exact h p b
 ·rw[List.mem_singleton.1 b];exact d
def zU4(l:List zF)(n:Int)(w:World)(e:Ending)(w':World):Prop:=∃b:Bool,e= .returned (.bool b)/\Bw w w'/\(b=true->(l.length:Int)<=n/\∀x∈l,zH x.when_<=60)
theorem zM3(Z:zD)(v:Value)(l:List zF)(n:Int)(w:World)(h:zn Z w v l)(hz:∀b,Z b->b<w.heap.size):
  Calls prog 25 #[v,.int .i64 n] w (zU4 l n w):=by
 obtain⟨A,ad,rfl,af⟩:=zj.form h;have Q:=hid (λk(hk:k<l.length)=>zj.at_ h hk);have HZ:=hid hz;clear h hz;go_enter func25,ntmps25
 go_wp2_with fail
 go_loopw[5,6] (λiv _ wr=>∃k:Nat,k<=l.length/\iv= .int .i64 k/\Hid (∀x∈l.take k,zH x.when_<=60)/\Hid (Bw w wr)) (λiv _ _=>l.length-(intOf iv).toNat);case atStart=>exact⟨0,Nat.zero_le _,rfl,hid (by simp),hid (Below.refl _ _)⟩
 case round=>
  obtain⟨k,hk,rfl,y,d⟩:=hrel;by_cases H:k<l.length
  ·(have ae:(k:Int)<(l.length:Int):=by omega);by_cases G:(l.length:Int)<=n
   ·obtain⟨b,ag,cs,rfl,aa,dc,I⟩:=Q k H;obtain⟨O,o,rfl,E,-⟩:=I.form;have X:b<w.heap.size:=HZ b aa;obtain⟨U,c1,c2,c3,c4,c5,c6,c7,c8,c9,z,B⟩:=zBQ (λj u hu=>(d.cell (p:=⟨b,_,none⟩) X).trans (dc j u hu));have Y:=lt_of_cell U;have g:=hid (λW(hW:Bw w W)=>zNr Z l[k].when_ _ 60 W (FmR.keep (zA.of_below_lt hW λb _ s=>HZ b s) _ _ E) (by decide) (by decide));have i:=hid (λ(h:zH l[k].when_ <=60)=>zQY (P:=λ(x:zF)=>zH x.when_<=60) H y h);clear dc I E;generalize l[k]=m at*;obtain⟨id,J,kd,N,⟨op,L,K,M,kids⟩,V,un,wi⟩:=m;simp only[Fm.op,Fm.name,Fm.cmp,Fm.num,Fm.kids]at g i U c1 c2 c3 c4 c5 c6 c7 c8 c9 z B;obtain⟨C,F⟩:∃C,zH (Fm.mk op L K M kids)=C:=⟨_,rfl⟩;rw[F]at g i;clear F;generalize kids.length=kl at*;(go_upto_region 5 with fail);have c:=hid (d.alloc d.size (.cells #[.string id,.string J,.int .i64 kd,.string N,.int .i64 op,.string L,.int .i64 K,.int .i64 M,.slice O kl o,.int .i64 V,.int .i64 un,.int .i64 wi] 54));have T:=hid (Blk.new wr 54 #[.string id,.string J,.int .i64 kd,.string N,.int .i64 op,.string L,.int .i64 K,.int .i64 M,.slice O kl o,.int .i64 V,.int .i64 un,.int .i64 wi]);clear U c1 c2 c3 c4 c5 c6 c7 c8 c9 z B Y;generalize wr.alloc (.cells #[.string id,.string J,.int .i64 kd,.string N,.int .i64 op,.string L,.int .i64 K,.int .i64 M,.slice O kl o,.int .i64 V,.int .i64 un,.int .i64 wi] 54)=w5 at*;generalize wr.heap.size=X5 at*;have a:=T.out;have p0:=a.at0;have aj:=a.frozen 0;have p1:=a.at1;have ak:=a.frozen 1;have p2:=a.at2;have al:=a.frozen 2;have p3:=a.at3;have ao:=a.frozen 3;have p4:=a.at4;have ap:=a.frozen 4;have p5:=a.cell 5;have aq:=a.frozen 5;have p6:=a.cell 6;have ar:=a.frozen 6;have p7:=a.cell 7;have av:=a.frozen 7;have p8:=a.cell 8;have aw:=a.frozen 8;have p9:=a.cell 9;have ax:=a.frozen 9;have ah:=a.cell 10;have ab:=a.frozen 10;have ai:=a.cell 11;have ac:=a.frozen 11;have pl:=a.lt;clear a;by_cases h1:id.size<=60
    ·by_cases h2:J.size<=60
     ·by_cases h3:N.size<=60
      ·have f:=hid (g _ c);by_cases t:C<=60
       ·have HN:=hid (i t);have D:decide ((C:Int)<=60)=true:=decide_eq_true (by omega);rw[D]at f;clear i t D g;(go_wp2_with fail);refine f.mono ?_;rintro e w2 ⟨rfl,s⟩;have q:=hid (zC c s);clear s f;(go_wp2_with fail);go_roundw;(case rel=>exact⟨k+1,by omega,by go_num,HN,q⟩);case measure=>simp[intOf];omega
       ·have D:decide ((C:Int)<=60)=false:=decide_eq_false (by omega);rw[D]at f;clear i t D g;(go_wp2_with fail);refine f.mono ?_;rintro e w2 ⟨rfl,s⟩;have q:=hid (zC c s);clear s f;(go_wp2_with fail);go_ret;exact⟨false,rfl,q.out,λh=>by cases h⟩
      ·(go_wp2_with fail);go_ret;exact⟨false,rfl,c.out,λh=>by cases h⟩
     ·(go_wp2_with fail);go_ret;exact⟨false,rfl,c.out,λh=>by cases h⟩
    ·(go_wp2_with fail);go_ret;exact⟨false,rfl,c.out,λh=>by cases h⟩
   ·(go_wp2_with fail);go_ret;exact⟨false,rfl,d.out,λh=>by cases h⟩
  ·(obtain rfl:k=l.length:=by omega);have HA:=hid (show ∀x∈l,zH x.when_<=60 from by have h:=y.out;rwa[List.take_length]at h);by_cases G:(l.length:Int)<=n
   ·have R:=hid G;(go_wp2_with fail);go_ret;exact⟨true,rfl,d.out,λ_=>⟨R.out,HA⟩⟩
   ·(go_wp2_with fail);go_ret;exact⟨false,rfl,d.out,λh=>by cases h⟩
def zUK(s:zM)(w:World)(e:Ending)(w':World):Prop:=∃b:Bool,e= .returned (.bool b)/\Bw w w'/\(b=true->s.dom.length<=20/\s.auths.length<=8)
theorem zOt(Z:zD)(vd R U T:Value)(s:zM)(w:World)(h:zBq Z w vd R U T s)(hz:∀b,Z b->b<w.heap.size):
  Calls prog 26 #[.agg #[vd,R,U,T,.int .i64 s.signed,.int .i64 s.now]] w (zUK s w):=by
 obtain⟨F,j,rfl⟩:∃y g,vd= .slice y s.dom.length g:=by obtain⟨⟨y,g,e,_⟩,_⟩:=h.d;exact⟨y,g,e⟩
 obtain⟨G,m,rfl,-,-,ab⟩:=h.a.form;obtain⟨H,o,rfl,ac⟩:=zj.form h.z;obtain⟨E,i,rfl,aa⟩:=zj.form h.c;have M:=hid (λk(C:k<s.zones.length)=>zCy.at_ h.z C);have K:=hid (λk(C:k<s.cases.length)=>zDK.at_ h.c C);clear h hz;have u:=Blk.new w 30 #[.slice F s.dom.length j,.slice G s.auths.length m,.slice H s.zones.length o,.slice E s.cases.length i,.int .i64 s.signed,.int .i64 s.now];have A:=zG w (.cells #[.slice F s.dom.length j,.slice G s.auths.length m,.slice H s.zones.length o,.slice E s.cases.length i,.int .i64 s.signed,.int .i64 s.now] 30);go_enter func26,ntmps26
 go_upto_region 1 with fail
 generalize w.alloc (.cells #[.slice F s.dom.length j,.slice G s.auths.length m,.slice H s.zones.length o,.slice E s.cases.length i,.int .i64 s.signed,.int .i64 s.now] 30)=w0 at*;have V:=u.at0;have W:=u.at1;have N:=u.at2;have I:=u.at3;have J:=u.lt;have f:=hid (And.intro u A);clear u A;by_cases X:s.dom.length<=20
 ·by_cases Y:s.auths.length<=8
  ·by_cases h3:s.zones.length<=8
   ·by_cases h4:s.cases.length<=8
    ·have L:=hid (And.intro X Y);(go_wp2_with fail);clear V W N I J;go_loopw[3] (λiv wr=>∃k:Nat,k<=s.zones.length/\iv= .int .i64 k/\wr=w0) (λiv _=>s.zones.length-(intOf iv).toNat);case atStart=>exact⟨0,Nat.zero_le _,rfl,by first|rfl|trivial⟩
     case round=>
      obtain⟨k,C,rfl,rfl⟩:=hrel;have N:=f.1.at2;have I:=f.1.at3;have J:=f.1.lt;by_cases P:k<s.zones.length
      ·obtain⟨b,Q,y,g,rfl,-,v,x,-⟩:=M k P;replace x:=brd f.2 x v;have B:=lt_of_cell x;(have O:(k:Int)<(s.zones.length:Int):=by omega);generalize (zA5 s.zones k).length =n at*;by_cases hn:n<=20
       ·(go_wp2_with fail);go_roundw;(case rel=>exact⟨k+1,by omega,by go_num,by first|rfl|trivial⟩);case measure=>simp[intOf];omega
       ·(go_wp2_with fail);go_ret;exact⟨false,rfl,f.2,λh=>by cases h⟩
      ·(obtain rfl:k=s.zones.length:=by omega);(go_wp2_with fail);go_loopw[4] (λiv wr=>∃k:Nat,k<=s.cases.length/\iv= .int .i64 k/\Hid (Blk wr w.heap.size 30 #[.slice F s.dom.length j,.slice G s.auths.length m,.slice H s.zones.length o,.slice E s.cases.length i,.int .i64 s.signed,.int .i64 s.now])/\Hid (Bw w wr)) (λiv _=>s.cases.length-(intOf iv).toNat);case atStart=>exact⟨0,Nat.zero_le _,rfl,hid f.1,hid f.2⟩
       case round=>
        obtain⟨k,C,rfl,t,q⟩:=hrel;clear N I J;have I:=t.at3;have J:=t.lt;by_cases D:k<s.cases.length
        ·obtain⟨b,Q,y,g,rfl,-,v,x,-⟩:=K k D;replace x:=brd q x v;have B:=lt_of_cell x;(have O:(k:Int)<(s.cases.length:Int):=by omega);generalize (s.cases.getD k []).length =n at*;by_cases hn:n<=30
         ·(go_wp2_with fail);go_roundw;(case rel=>exact⟨k+1,by omega,by go_num,t,q⟩);case measure=>simp[intOf];omega
         ·(go_wp2_with fail);go_ret;exact⟨false,rfl,q.out,λh=>by cases h⟩
        ·(obtain rfl:k=s.cases.length:=by omega);(go_wp2_with fail);go_ret;exact⟨true,rfl,q.out,λ_=>L⟩
    ·(go_wp2_with fail);go_ret;exact⟨false,rfl,f.2,λh=>by cases h⟩
   ·(go_wp2_with fail);go_ret;exact⟨false,rfl,f.2,λh=>by cases h⟩
  ·(go_wp2_with fail);go_ret;exact⟨false,rfl,f.2,λh=>by cases h⟩
 ·go_wp2_with fail
  go_ret;exact⟨false,rfl,f.2,λh=>by cases h⟩
end
end Go.Proofs.YtommaegelgilnaaGreatDoor
