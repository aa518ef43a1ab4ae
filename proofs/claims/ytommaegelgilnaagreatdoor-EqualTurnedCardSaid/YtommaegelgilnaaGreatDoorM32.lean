/- Lemmas. -/
import Derived.Test.YtommaegelgilnaaGreatDoorM19
import Derived.Test.YtommaegelgilnaaGreatDoorM29
set_option linter.all false
namespace Go.Proofs.YtommaegelgilnaaGreatDoor
open Go.RowKit Go.Proofs.Tryz
set_option maxHeartbeats 8000000
set_option maxRecDepth 100000
theorem zQX(c:Int):(97<=c/\c<=122)\/(¬97<=c/\65<=c/\c<=90)\/(97<=c/\¬c<=122/\65<=c/\¬c<=90/\(c !=95)=true/\¬c<48/\57<c)\/(¬97<=c/\65<=c/\¬c<=90/\(c !=95)=true/\¬c<48/\57<c)\/(¬97<=c/\65<=c/\¬c<=90/\c=95)\/
  (¬97<=c/\¬65<=c/\(c !=95)=true/\¬c<48/\57<c)\/(¬97<=c/\¬65<=c/\(c !=95)=true/\¬c<48/\¬57<c)\/(¬97<=c/\¬65<=c/\(c !=95)=true/\c<48):=by
 simp only[bne_iff_ne,ne_eq];omega
theorem zRn(s:ByteArray)(B:s.size<=140737488355328)(w:World):
  Calls prog 51 #[.string s] w λe w'=>e= .returned (.bool (zAy s))/\w=w':=by
 rw[zIm];go_enter func51,ntmps51
 go_wp2;go_loop[8] (λi=>∃k:Nat,k<=s.size/\i= .int .i64 k/\Hid (zGl s.data.toList k)) (λi=>s.size-(intOf i).toNat);case atStart=>exact⟨0,Nat.zero_le _,rfl,zHY _⟩
 case round=>
  obtain⟨k,A,rfl,m⟩:=hrel;by_cases o:k<s.size
  ·have n:=zJS o;have c:=hid n;have d:=hid (λh=>zGm (l:=s.data.toList) (k:=k) (by simpa using o) h);have u:=zQX (s[k].toNat :Int);have x:=hid (λ(h:((s[k].toNat :Int)!=95)=true)=>(show ¬(s[k].toNat :Int)=95 from by simpa using h));clear n;(have a:k=0\/0<k:=by omega);rcases u with⟨f,g⟩|⟨f,g,j⟩|⟨f,g,j,h4,h5,h6,h7⟩|⟨f,g,j,h4,h5,h6⟩|⟨f,g,j,h4⟩|⟨f,g,j,h4,h5⟩|⟨f,g,j,h4,h5⟩|⟨f,g,j,h4⟩
   ·skip
    (go_wp2_with fail);go_round;(case rel=>exact⟨k+1,by omega,by go_num,zCK m (by rw[c.out];exact decide_eq_true (by grind))⟩);case measure=>simp[intOf];omega
   ·skip
    (go_wp2_with fail);go_round;(case rel=>exact⟨k+1,by omega,by go_num,zCK m (by rw[c.out];exact decide_eq_true (by grind))⟩);case measure=>simp[intOf];omega
   ·rcases a with rfl|a
    all_goals
     (go_wp2_with fail);go_ret;exact⟨zI (d (by rw[c.out];exact decide_eq_false (by grind))▸rfl),rfl⟩
   ·rcases a with rfl|a
    all_goals
     (go_wp2_with fail);go_ret;exact⟨zI (d (by rw[c.out];exact decide_eq_false (by grind))▸rfl),rfl⟩
   ·rcases a with rfl|a
    ·(go_wp2_with fail);go_ret;exact⟨zI (d (by rw[c.out];exact decide_eq_false (by grind))▸rfl),rfl⟩
    (go_wp2_with fail);go_round;(case rel=>exact⟨k+1,by omega,by go_num,zCK m (by rw[c.out];exact decide_eq_true (by grind))⟩);case measure=>simp[intOf];omega
   ·rcases a with rfl|a
    all_goals
     (go_wp2_with fail);go_ret;exact⟨zI (d (by rw[c.out];exact decide_eq_false (by grind))▸rfl),rfl⟩
   ·rcases a with rfl|a
    ·(go_wp2_with fail);go_ret;exact⟨zI (d (by rw[c.out];exact decide_eq_false (by grind))▸rfl),rfl⟩
    (go_wp2_with fail);go_round;(case rel=>exact⟨k+1,by omega,by go_num,zCK m (by rw[c.out];exact decide_eq_true (by grind))⟩);case measure=>simp[intOf];omega
   rcases a with rfl|a
   all_goals
    (go_wp2_with fail);go_ret;exact⟨zI (d (by rw[c.out];exact decide_eq_false (by grind))▸rfl),rfl⟩
  obtain rfl:k=s.size:=by omega
  have he:=zIR (l:=s.data.toList) (by simpa using m.out);have v:=hid he;clear he m
  repeat' (first|(go_big_may;fail)|((with_reducible apply zBU);rfl;first|((with_reducible apply zBT);rfl;rfl;rfl;exact zAn.app;intro z y;(simp only[nr]))|((with_reducible apply zAF);rfl;rfl;rfl;exact(by constructor);(intro q;(try simp only[Bool.and_eq_true,Bool.not_eq_true']at q);(first|subst q|(obtain⟨f,g⟩:=q;subst f;subst g)|(obtain⟨⟨f,g⟩,j⟩:=q;subst f;subst g;subst j));(try simp only[zm,z7,Bool.not_true,Bool.not_false,Bool.true_and,Bool.false_and,Bool.and_self]);go_simp;with_reducible rfl);(simp only[nr])))|((with_reducible apply zAj);rfl;rfl;first|((with_reducible apply zAg);rfl;rfl;rfl;rfl;(simp only[nr]))|((with_reducible apply zAh);rfl;rfl;rfl;rfl;(simp only[nr]))|((with_reducible apply zAR);rfl;rfl;rfl;rfl;rfl;(simp only[nr]))|((with_reducible apply zA7);rfl;rfl;rfl;rfl;rfl;(simp only[nr])))|go_values|go_guarded|go_step|go_upon|go_back|dsimp only)
  go_ret;refine⟨zI (b:=zB6 s.data.toList) ?_,rfl⟩;rw[v.out];simp only[Hid]at*
  subst_vars
  have t:decide ((s.size:Int)<=24)=decide (s.size<=24):=by rw[Bool.eq_iff_iff];simp only[decide_eq_true_eq];omega
  rw[t,ByteArray.toList_eq,show s.data.toList.isEmpty=decide (s.data.toList=[]) from by rw[Bool.eq_iff_iff];simp];simp
theorem zOs{q c:Int}(h:(97<=q/\q<=122)↔((97<=c/\c<=122)\/(65<=c/\c<=90))):(97<=q/\q<=122/\48<=c/\¬c<=57/\(c==95)=false)\/(¬97<=q/\¬48<=c/\(c==95)=false)\/(¬97<=q/\48<=c/\c<=57)\/(¬97<=q/\48<=c/\¬c<=57/\(c==95)=true)\/(¬97<=q/\48<=c/\¬c<=57/\(c==95)=false)\/
  (97<=q/\¬q<=122/\¬48<=c/\(c==95)=false)\/(97<=q/\¬q<=122/\48<=c/\c<=57)\/(97<=q/\¬q<=122/\48<=c/\¬c<=57/\(c==95)=true)\/(97<=q/\¬q<=122/\48<=c/\¬c<=57/\(c==95)=false):=by
 simp only[beq_eq_false_iff_ne,ne_eq,beq_iff_eq];omega
theorem zU3:∀n:Fin 256,(97<=bits BinOp.or IntKind.u8 (n.1:Int) 32/\bits BinOp.or IntKind.u8 (n.1:Int) 32<=122)↔((97<=(n.1:Int)/\(n.1:Int)<=122)\/(65<=(n.1:Int)/\(n.1:Int)<=90)):=by decide+kernel
theorem zIC(s:ByteArray)(F:s.size<=140737488355328)(w:World):
  Calls prog 234 #[.string s] w λe w'=>e= .returned (.bool (zAy s))/\Bw w w':=by
 rw[zIm];go_enter func234,ntmps234
 go_wp2;go_loopw[9] (λi wr=>∃k:Nat,k<=s.size/\i= .int .i64 k/\Bw w wr/\Hid (zGl s.data.toList k)) (λi _=>s.size-(intOf i).toNat);case atStart=>exact⟨0,Nat.zero_le _,rfl,Below.refl _ _,zHY _⟩
 case round=>
  obtain⟨k,E,rfl,a,o⟩:=hrel;by_cases u:k<s.size
  ·have t:=zJS u;have q:=zU3 ⟨s[k].toNat,s[k].toNat_lt⟩;dsimp only at q
   have n:zFQ s.data.toList k=decide ((97<=bits BinOp.or IntKind.u8 (s[k].toNat :Int) 32/\bits BinOp.or IntKind.u8 (s[k].toNat :Int) 32<=122)\/(0<k/\((48<=(s[k].toNat :Int)/\(s[k].toNat :Int)<=57)\/(s[k].toNat :Int)=95))):=by
    rw[t];apply decide_eq_decide.2;grind
   have d:=hid n;have f:=hid (λh=>zGm (l:=s.data.toList) (k:=k) (by simpa using u) h);have y:=zOs q;have B:=hid (λ(h:((s[k].toNat :Int)==95)=false)=>(show ¬(s[k].toNat :Int)=95 from by simpa using h));have A:=hid (λ(h:((s[k].toNat :Int)==95)=true)=>(show(s[k].toNat :Int)=95 from by simpa using h));(have c:k=0\/0<k:=by omega);clear t n q;(go_upto_region 5 with fail);rcases y with⟨g,j,m,h4,h5⟩|⟨g,j,m⟩|⟨g,j,m⟩|⟨g,j,m,h4⟩|⟨g,j,m,h4⟩|⟨h0,g,j,m⟩|⟨h0,g,j,m⟩|⟨h0,g,j,m,h4⟩|⟨h0,g,j,m,h4⟩
   ·skip
    go_quiet(fail);(go_wp2_with fail);go_roundw;(case rel=>exact⟨k+1,by omega,by go_num,below_drewN' a _,zCK o (by rw[d.out];exact decide_eq_true (by grind))⟩);case measure=>simp[intOf];omega
   ·rcases c with rfl|c
    all_goals
     go_quiet(fail);(go_wp2_with fail);go_ret;exact⟨zI (f (by rw[d.out];exact decide_eq_false (by grind))▸rfl),below_drewN' a _⟩
   ·rcases c with rfl|c
    ·go_quiet(fail);(go_wp2_with fail);go_ret;exact⟨zI (f (by rw[d.out];exact decide_eq_false (by grind))▸rfl),below_drewN' a _⟩
    skip
    go_quiet(fail);(go_wp2_with fail);go_roundw;(case rel=>exact⟨k+1,by omega,by go_num,below_drewN' a _,zCK o (by rw[d.out];exact decide_eq_true (by grind))⟩);case measure=>simp[intOf];omega
   ·rcases c with rfl|c
    ·go_quiet(fail);(go_wp2_with fail);go_ret;exact⟨zI (f (by rw[d.out];exact decide_eq_false (by grind))▸rfl),below_drewN' a _⟩
    skip
    go_quiet(fail);(go_wp2_with fail);go_roundw;(case rel=>exact⟨k+1,by omega,by go_num,below_drewN' a _,zCK o (by rw[d.out];exact decide_eq_true (by grind))⟩);case measure=>simp[intOf];omega
   ·rcases c with rfl|c
    all_goals
     go_quiet(fail);(go_wp2_with fail);go_ret;exact⟨zI (f (by rw[d.out];exact decide_eq_false (by grind))▸rfl),below_drewN' a _⟩
   ·rcases c with rfl|c
    all_goals
     go_quiet(fail);(go_wp2_with fail);go_ret;exact⟨zI (f (by rw[d.out];exact decide_eq_false (by grind))▸rfl),below_drewN' a _⟩
   ·rcases c with rfl|c
    ·go_quiet(fail);(go_wp2_with fail);go_ret;exact⟨zI (f (by rw[d.out];exact decide_eq_false (by grind))▸rfl),below_drewN' a _⟩
    skip
    go_quiet(fail);(go_wp2_with fail);go_roundw;(case rel=>exact⟨k+1,by omega,by go_num,below_drewN' a _,zCK o (by rw[d.out];exact decide_eq_true (by grind))⟩);case measure=>simp[intOf];omega
   ·rcases c with rfl|c
    ·go_quiet(fail);(go_wp2_with fail);go_ret;exact⟨zI (f (by rw[d.out];exact decide_eq_false (by grind))▸rfl),below_drewN' a _⟩
    skip
    go_quiet(fail);(go_wp2_with fail);go_roundw;(case rel=>exact⟨k+1,by omega,by go_num,below_drewN' a _,zCK o (by rw[d.out];exact decide_eq_true (by grind))⟩);case measure=>simp[intOf];omega
   rcases c with rfl|c
   all_goals
    go_quiet(fail);(go_wp2_with fail);go_ret;exact⟨zI (f (by rw[d.out];exact decide_eq_false (by grind))▸rfl),below_drewN' a _⟩
  obtain rfl:k=s.size:=by omega
  have he:=zIR (l:=s.data.toList) (by simpa using o.out);have z:=hid he;clear he o
  repeat' (first|(go_big_may;fail)|((with_reducible apply zBU);rfl;first|((with_reducible apply zBT);rfl;rfl;rfl;exact zAn.app;intro D C;(simp only[nr]))|((with_reducible apply zAF);rfl;rfl;rfl;exact(by constructor);(intro v;(try simp only[Bool.and_eq_true,Bool.not_eq_true']at v);(first|subst v|(obtain⟨g,j⟩:=v;subst g;subst j)|(obtain⟨⟨g,j⟩,m⟩:=v;subst g;subst j;subst m));(try simp only[zm,z7,Bool.not_true,Bool.not_false,Bool.true_and,Bool.false_and,Bool.and_self]);go_simp;with_reducible rfl);(simp only[nr])))|((with_reducible apply zAj);rfl;rfl;first|((with_reducible apply zAg);rfl;rfl;rfl;rfl;(simp only[nr]))|((with_reducible apply zAh);rfl;rfl;rfl;rfl;(simp only[nr]))|((with_reducible apply zAR);rfl;rfl;rfl;rfl;rfl;(simp only[nr]))|((with_reducible apply zA7);rfl;rfl;rfl;rfl;rfl;(simp only[nr])))|go_values|go_guarded|go_step|go_upon|go_back|dsimp only)
  go_ret;refine⟨zI (b:=zB6 s.data.toList) ?_,a⟩;rw[z.out];simp only[Hid]at*
  subst_vars
  have x:decide ((s.size:Int)<=24)=decide (s.size<=24):=by rw[Bool.eq_iff_iff];simp only[decide_eq_true_eq];omega
  rw[x,ByteArray.toList_eq,show s.data.toList.isEmpty=decide (s.data.toList=[]) from by rw[Bool.eq_iff_iff];simp];simp
theorem zF5(t:Int)(w:World):Calls prog 104 #[.int .i64 t] w λe w'=>e= .returned (.bool (zEM t))/\w=w':=by
 have g:=hid (show zEM t=(decide (0<=t)&&decide (t<=100000)) from by unfold zEM;rw[Bool.eq_iff_iff];simp);generalize zEM t=b at*;go_enter func104,ntmps104
 repeat' (first|(go_big_may;fail)|((with_reducible apply zBU);rfl;first|((with_reducible apply zBT);rfl;rfl;rfl;exact zAn.app;intro i f;(simp only[nr]))|((with_reducible apply zAF);rfl;rfl;rfl;exact(by constructor);(intro a;(try simp only[Bool.and_eq_true,Bool.not_eq_true']at a);(first|subst a|(obtain⟨c,d⟩:=a;subst c;subst d)|(obtain⟨⟨c,d⟩,h⟩:=a;subst c;subst d;subst h));(try simp only[zm,z7,Bool.not_true,Bool.not_false,Bool.true_and,Bool.false_and,Bool.and_self]);go_simp;with_reducible rfl);(simp only[nr])))|((with_reducible apply zAj);rfl;rfl;first|((with_reducible apply zAg);rfl;rfl;rfl;rfl;(simp only[nr]))|((with_reducible apply zAh);rfl;rfl;rfl;rfl;(simp only[nr]))|((with_reducible apply zAR);rfl;rfl;rfl;rfl;rfl;(simp only[nr]))|((with_reducible apply zA7);rfl;rfl;rfl;rfl;rfl;(simp only[nr])))|go_values|go_guarded|go_step|go_upon|go_back|dsimp only)
 go_ret;exact⟨zI (by rw[g.out,f.out]),rfl⟩
theorem zCs(t:Int)(w:World):Calls prog 124 #[.int .i64 t] w λe w'=>e= .returned (.bool (zCN t))/\w=w':=by
 have g:=hid (show zCN t=(decide (0<=t)&&decide (t<=144001439)) from rfl);generalize zCN t=b at*;go_enter func124,ntmps124
 repeat' (first|(go_big_may;fail)|((with_reducible apply zBU);rfl;first|((with_reducible apply zBT);rfl;rfl;rfl;exact zAn.app;intro i f;(simp only[nr]))|((with_reducible apply zAF);rfl;rfl;rfl;exact(by constructor);(intro a;(try simp only[Bool.and_eq_true,Bool.not_eq_true']at a);(first|subst a|(obtain⟨c,d⟩:=a;subst c;subst d)|(obtain⟨⟨c,d⟩,h⟩:=a;subst c;subst d;subst h));(try simp only[zm,z7,Bool.not_true,Bool.not_false,Bool.true_and,Bool.false_and,Bool.and_self]);go_simp;with_reducible rfl);(simp only[nr])))|((with_reducible apply zAj);rfl;rfl;first|((with_reducible apply zAg);rfl;rfl;rfl;rfl;(simp only[nr]))|((with_reducible apply zAh);rfl;rfl;rfl;rfl;(simp only[nr]))|((with_reducible apply zAR);rfl;rfl;rfl;rfl;rfl;(simp only[nr]))|((with_reducible apply zA7);rfl;rfl;rfl;rfl;rfl;(simp only[nr])))|go_values|go_guarded|go_step|go_upon|go_back|dsimp only)
 go_ret;exact⟨zI (by rw[g.out,f.out]),rfl⟩
theorem zLE(u v x y z A B C:Value)(m:zF)(w:World):
  Calls prog 61 #[.agg #[u,v,.int .i64 m.kind,x,y,z,A,B,C,.int .i64 m.from_,.int .i64 m.until_,.int .i64 m.wind]] w λe w'=>e= .returned (.bool (zCD m))/\Bw w w':=by
 have h:=hid (show zCD m=(zEM m.from_&&decide (0<=m.wind)&&decide (m.wind<=400)&&(decide (m.wind<=0)||decide (m.kind=1))&&(decide (m.until_= -1)||zEM m.until_&&decide (m.from_<m.until_))) from rfl);generalize zCD m=d at*;obtain⟨id,au,t,tg,wh,s,un,a⟩:=m;dsimp only at h⊢;have q:=hid (zG w (.cells #[u,v,.int .i64 t,x,y,z,A,B,C,.int .i64 s,.int .i64 un,.int .i64 a] 54));have H:=hid (Blk.new w 54 #[u,v,.int .i64 t,x,y,z,A,B,C,.int .i64 s,.int .i64 un,.int .i64 a]);go_enter func61,ntmps61
 go_upto_region 1 with fail
 generalize w.alloc _=w1 at*;obtain⟨p0,Q,p1,R,p2,T,p3,U,p4,V,p5,W,p6,X,p7,Y,p8,Z,p9,aa,O,K,P,L,pl⟩:=H.d12;clear H;obtain⟨i,n⟩:∃b,zEM s=b:=⟨_,rfl⟩;obtain⟨D,o⟩:∃b,zEM un=b:=⟨_,rfl⟩;rw[n,o]at h;have c:=hid n;have f:=hid o;clear n o
 have N:i=false\/(i=true/\a<0)\/(i=true/\¬a<0/\400<a)\/(i=true/\¬a<0/\¬400<a/\0<a/\¬t=1)\/(i=true/\¬a<0/\¬400<a/\0<a/\t=1)\/(i=true/\¬a<0/\¬400<a/\¬0<a):=by
  cases i<;>simp<;>omega
 have J:un= -1\/(¬un= -1/\D=false)\/(¬un= -1/\D=true/\¬s<un)\/(¬un= -1/\D=true/\s<un):=by
  cases D<;>simp<;>omega
 rcases N with g|⟨g,E⟩|⟨g,E,F⟩|⟨g,E,F,I,M⟩|⟨g,E,F,I,M⟩|⟨g,E,F,I⟩
 ·subst g;go_wp2_with(go_at_call 104;refine(zF5 _ _).mono ?_;rintro e w' ⟨rfl,rfl⟩;first|rw[c.out]|rw[f.out]);go_ret;exact⟨zI (by rw[h.out];grind),q⟩
 ·subst g;go_wp2_with(go_at_call 104;refine(zF5 _ _).mono ?_;rintro e w' ⟨rfl,rfl⟩;first|rw[c.out]|rw[f.out]);go_ret;exact⟨zI (by rw[h.out];grind),q⟩
 ·subst g;go_wp2_with(go_at_call 104;refine(zF5 _ _).mono ?_;rintro e w' ⟨rfl,rfl⟩;first|rw[c.out]|rw[f.out]);go_ret;exact⟨zI (by rw[h.out];grind),q⟩
 ·subst g;go_wp2_with(go_at_call 104;refine(zF5 _ _).mono ?_;rintro e w' ⟨rfl,rfl⟩;first|rw[c.out]|rw[f.out]);go_ret;exact⟨zI (by rw[h.out];grind),q⟩
 ·subst g;rcases J with j|⟨j,k⟩|⟨j,k,G⟩|⟨j,k,G⟩;all_goals try subst k
  all_goals
   go_wp2_with(go_at_call 104;refine(zF5 _ _).mono ?_;rintro e w' ⟨rfl,rfl⟩;first|rw[c.out]|rw[f.out]);go_ret;exact⟨zI (by rw[h.out];grind),q⟩
 subst g;rcases J with j|⟨j,k⟩|⟨j,k,G⟩|⟨j,k,G⟩;all_goals try subst k
 all_goals
  go_wp2_with(go_at_call 104;refine(zF5 _ _).mono ?_;rintro e w' ⟨rfl,rfl⟩;first|rw[c.out]|rw[f.out]);go_ret;exact⟨zI (by rw[h.out];grind),q⟩
theorem zRo(Z:zD)(H I J K L M N O:Value)(m:zF)(v:Value)(z:zp)(w:World)(h:zB4 Z w v z)(hz:∀b,Z b->b<w.heap.size):
  Calls prog 123 #[.agg #[H,I,.int .i64 m.kind,J,K,L,M,N,O,.int .i64 m.from_,.int .i64 m.until_,.int .i64 m.wind],.agg #[v]] w λe w'=>
   e= .returned (.tuple #[.int .i64 (zCx m z).1,.int .i64 (zCx m z).2.1,.int .i64 (zCx m z).2.2])/\Bw w w':=by
 have HD:=hid (λW=>zLE H I J K L M N O m W);have HV:=hid (λW(x:Bw w W)=>zGG Z v z W (h.keep (.of_below_lt x λb _ a=>hz b a)));have X:=hid (λd W(x:Bw w W)=>zHn Z v z d W (h.keep (.of_below_lt x λb _ a=>hz b a)) (λb a=>Nat.lt_of_lt_of_le (hz b a) x.size));obtain⟨A,u,rfl,hl⟩:=h.form
 have j:=hid (show zCx m z=(if zCD m=false\/zBn z=false then(0,0,1)
  else if(zA4 z m.from_).2≠0 then(0,0,10)
  else((zA4 z m.from_).1,if m.until_<0\/(zA4 z m.until_).2≠0 then-1 else(zA4 z m.until_).1,0)) from rfl)
 generalize zCx m z=sp at*;generalize zCD m=d at*;generalize zBn z=vz at*;obtain⟨id,au,kd,tg,wh,P,un,wi⟩:=m;dsimp only at j HD X⊢;have o:=hid (λW x=>X P W x);have q:=hid (λW x=>X un W x);obtain⟨⟨t1,e1⟩,R⟩:∃r,zA4 z P=r:=⟨_,rfl⟩;obtain⟨⟨t2,e2⟩,T⟩:∃r,zA4 z un=r:=⟨_,rfl⟩;rw[R]at o j;rw[T]at q j;dsimp only at o q j;clear R T X h hz;have HB:=hid ((zG w (.cells #[H,I,.int .i64 kd,J,K,L,M,N,O,.int .i64 P,.int .i64 un,.int .i64 wi] 54)).alloc (by simp) (.cells #[.slice A z.length u] 100));have Y:=hid ((Blk.new w 54 #[H,I,.int .i64 kd,J,K,L,M,N,O,.int .i64 P,.int .i64 un,.int .i64 wi]).alloc (.cells #[.slice A z.length u] 100));have hY:=Blk.new (w.alloc (.cells #[H,I,.int .i64 kd,J,K,L,M,N,O,.int .i64 P,.int .i64 un,.int .i64 wi] 54)) 100 #[.slice A z.length u];rw[World.size_alloc]at hY;have HY:=hid hY;clear hY;go_enter func123,ntmps123
 go_upto_region 1 with fail
 generalize (w.alloc _).alloc _=w1 at*;obtain⟨p0,ac,p1,ad,p2,ae,p3,af,p4,ag,p5,ah,p6,ai,p7,aj,p8,ak,p9,al,aa,U,ab,V,pl⟩:=Y.d12;obtain⟨F,c,G⟩:=HY.out.d1;go_wp2_with fail
 refine(HD _).mono ?_;rintro e w2 ⟨rfl,a⟩;have f:=hid (zC HB a);have B:=hid (Y.below a Y.lt);have s:=hid (HY.below a HY.lt);clear a HB Y HY HD p0 p1 p2 p3 p4 p5 p6 p7 p8 p9 aa ab pl ac ad ae af ag ah ai aj ak al U V F c G;cases d
 ·go_wp2_with fail
  go_ret3;exact⟨by rw[j.out];rfl,f⟩
 have hq:=f.out;obtain⟨F,c,G⟩:=s.out.d1;go_wp2_with fail
 refine(HV _ f).mono ?_;rintro e w3 ⟨rfl,a⟩;have k:=hid (zC f a);have g:=hid (B.below a B.lt);have t:=hid (s.below a s.lt);clear a f B s HV F c G;cases vz
 ·go_wp2_with fail
  go_ret3;exact⟨by rw[j.out];rfl,k⟩
 have x9:=g.cell 9;have xl:=g.lt;obtain⟨F,c,G⟩:=t.out.d1;go_wp2_with fail
 refine(o _ k).mono ?_;rintro e w4 ⟨rfl,a⟩;have n:=hid (zC k a);have i:=hid (g.below a g.lt);have Q:=hid (t.below a t.lt);clear a k g t o x9 xl F c G;by_cases D:e1=0
 ·subst D;have ao:=i.cell 10;have xl:=i.lt;obtain⟨F,c,G⟩:=Q.out.d1;go_wp2_with fail
  refine(q _ n).mono ?_;rintro e w5 ⟨rfl,a⟩;have y:=hid (zC n a);have C:=i.below a i.lt;have ap:=C.cell 10;have av:=C.lt;clear a n i Q q ao xl F c G C;by_cases hu:un<0
  ·(go_wp2_with fail);go_ret3;exact⟨by rw[j.out];simp[hu],y⟩
  have HU:=hid hu;by_cases E:e2=0
  ·subst E;(go_wp2_with fail);go_ret3;exact⟨by rw[j.out];have hU:=HU.out;simp;omega,y⟩
  have ar:((e2:Int)!=(0:Int))=true:=by simp[E]
  go_wp2_with fail
  go_ret3;exact⟨by rw[j.out];simp[E],y⟩
 have aq:((e1:Int)!=(0:Int))=true:=by simp[D]
 go_wp2_with fail
 go_ret3;exact⟨by rw[j.out];simp[D],n⟩
theorem zJC(Z:zD)(F G H I J K L M:Value)(m:zF)(v:Value)(z:zp)(sg a:Int)(w:World)(h:zB4 Z w v z)(hz:∀b,Z b->b<w.heap.size):
  Calls prog 69 #[.agg #[F,G,.int .i64 m.kind,H,I,J,K,L,M,.int .i64 m.from_,.int .i64 m.until_,.int .i64 m.wind],.agg #[v],.int .i64 sg,.int .i64 a] w λe w'=>
   e= .returned (.bool (zD2 m z sg a))/\Bw w w':=by
 have V:=hid (λW(Y:Bw w W)=>zRo Z F G H I J K L M m v z W (h.keep (.of_below_lt Y λb _ d=>hz b d)) (λb d=>Nat.lt_of_lt_of_le (hz b d) Y.size));have U:=hid (λW(Y:Bw w W)=>zHn Z v z (m.from_+m.wind) W (h.keep (.of_below_lt Y λb _ d=>hz b d)) (λb d=>Nat.lt_of_lt_of_le (hz b d) Y.size));obtain⟨A,q,rfl,hl⟩:=h.form
 have o:=hid (λ(h:(zCx m z).2.2=0)=>(show 0<=m.from_/\m.from_<=100000/\0<=m.wind/\m.wind<=400 from by
  unfold zCx at h;split at h
  ·exact absurd h (by decide)
  rename_i k
  have n:zCD m=true:=by cases hd:zCD m with
   |true=>rfl
   |false=>exact absurd (.inl hd) k
  unfold zCD zEM at n;simp only[Bool.and_eq_true,Bool.or_eq_true,decide_eq_true_eq]at n;obtain⟨⟨⟨⟨⟨P,Q⟩,R⟩,h7⟩,_⟩,_⟩:=n
  exact⟨P,Q,R,h7⟩))
 have i:=hid (show zD2 m z sg a=(if(zCx m z).2.2≠0\/zCN sg=false\/zCN a=false\/a<(zCx m z).1\/(0<=(zCx m z).2.1/\(zCx m z).2.1<=a)then false
  else if(zCx m z).1<=sg then true
  else decide ((zA4 z (m.from_+m.wind)).2=0)&&decide ((zA4 z (m.from_+m.wind)).1<=a)) from rfl)
 generalize zD2 m z sg a=ap at*;obtain⟨⟨t1,s,B⟩,ab⟩:∃r,zCx m z=r:=⟨_,rfl⟩;obtain⟨⟨t3,e3⟩,aa⟩:∃r,zA4 z (m.from_+m.wind)=r:=⟨_,rfl⟩;rw[ab]at i V o;rw[aa]at i U;dsimp only at i V U o;obtain⟨id,au,kd,tg,wh,O,un,T⟩:=m;dsimp only at i V U o⊢;clear ab aa h hz;have HB:=hid ((zG w (.cells #[F,G,.int .i64 kd,H,I,J,K,L,M,.int .i64 O,.int .i64 un,.int .i64 T] 54)).alloc (by simp) (.cells #[.slice A z.length q] 100));have HX:=hid ((Blk.new w 54 #[F,G,.int .i64 kd,H,I,J,K,L,M,.int .i64 O,.int .i64 un,.int .i64 T]).alloc (.cells #[.slice A z.length q] 100));have hY:=Blk.new (w.alloc (.cells #[F,G,.int .i64 kd,H,I,J,K,L,M,.int .i64 O,.int .i64 un,.int .i64 T] 54)) 100 #[.slice A z.length q];rw[World.size_alloc]at hY;have HY:=hid hY;clear hY;go_enter func69,ntmps69
 go_upto_region 1 with fail
 generalize (w.alloc _).alloc _=w1 at*;obtain⟨p0,ak,p1,al,p2,ao,p3,aq,p4,ar,p5,av,p6,aw,p7,ax,p8,ay,p9,az,ai,ac,aj,ad,pl⟩:=HX.d12;obtain⟨q0,ae,ql⟩:=HY.out.d1;go_wp2_with fail
 refine(V _ HB).mono ?_;rintro e w2 ⟨rfl,d⟩;have c:=hid (zC HB d);have y:=hid (HX.below d HX.lt);have ag:=hid (HY.below d HY.lt);clear d HB HX HY V p0 p1 p2 p3 p4 p5 p6 p7 p8 p9 ai aj pl ak al ao aq ar av aw ax ay az ac ad q0 ae ql;obtain⟨N,C⟩:∃b,zCN sg=b:=⟨_,rfl⟩;obtain⟨X,D⟩:∃b,zCN a=b:=⟨_,rfl⟩;rw[C,D]at i;have f:=hid C;have g:=hid D;clear C D
 have hc:(¬B=0)\/(B=0/\N=false)\/(B=0/\N=true/\X=false)\/(B=0/\N=true/\X=true/\a<t1)\/(B=0/\N=true/\X=true/\¬a<t1/\0<=s/\s<=a)\/(B=0/\N=true/\X=true/\¬a<t1/\¬(0<=s/\s<=a)):=by
  cases N<;>cases X<;>simp<;>omega
 rcases hc with j|⟨j,k⟩|⟨j,k,n⟩|⟨j,k,n,P⟩|⟨j,k,n,P,Q,R⟩|⟨j,k,n,P,Q⟩
 ·have a2:((B:Int)==(0:Int))=false:=by simp[j]
  go_wp2_with fail
  go_ret;exact⟨zI (by rw[i.out];simp[j]),c⟩
 ·subst j k;go_wp2_with(go_at_call 124;refine(zCs _ _).mono ?_;rintro e w' ⟨rfl,rfl⟩;first|rw[f.out]|rw[g.out]);go_ret;exact⟨zI (by rw[i.out];simp[]),c⟩
 ·subst j k n;go_wp2_with(go_at_call 124;refine(zCs _ _).mono ?_;rintro e w' ⟨rfl,rfl⟩;first|rw[f.out]|rw[g.out]);go_ret;exact⟨zI (by rw[i.out];simp[]),c⟩
 ·subst j k n;go_wp2_with(go_at_call 124;refine(zCs _ _).mono ?_;rintro e w' ⟨rfl,rfl⟩;first|rw[f.out]|rw[g.out]);go_ret;exact⟨zI (by rw[i.out];simp[P]),c⟩
 ·subst j k n;go_wp2_with(go_at_call 124;refine(zCs _ _).mono ?_;rintro e w' ⟨rfl,rfl⟩;first|rw[f.out]|rw[g.out]);go_ret;exact⟨zI (by rw[i.out];simp[Q,R]),c⟩
 subst j k n;obtain⟨ba,bb,bc,bd⟩:=o rfl;have ah:¬0<=s\/(0<=s/\¬s<=a):=by omega
 have t:=hid (show ¬(0<=s/\s<=a) from Q);have x:=hid P;clear Q;have bf:IntKind.i64.wrap (O+T)=O+T:=by rw[IntKind.wrap_i64];omega
 rcases ah with R|⟨R,h7⟩
 all_goals
  have H6:=hid R;by_cases hs:t1<=sg
  ·go_wp2_with(go_at_call 124;refine(zCs _ _).mono ?_;rintro e w' ⟨rfl,rfl⟩;first|rw[f.out]|rw[g.out]);go_ret;exact⟨zI (by rw[i.out];simp[t.out,x.out,hs]),c⟩
  have x9:=y.cell 9;have bg:=y.cell 11;have xl:=y.lt;obtain⟨q0,ae,ql⟩:=ag.out.d1;by_cases E:e3=0
  ·subst E;have u:=hid hs;go_wp2_with(first|(go_at_call 124;refine(zCs _ _).mono ?_;rintro e w' ⟨rfl,rfl⟩;first|rw[f.out]|rw[g.out])|(go_at_call 105;refine(U _ c).mono ?_;rintro e w3 ⟨rfl,d⟩));go_ret;exact⟨zI (by rw[i.out];have j:=t.out;have k:=x.out;have n:=u.out;simp;grind),zC c d⟩
  have u:=hid hs;have af:=hid E;have a9:((e3:Int)==(0:Int))=false:=by simp[E]
  go_wp2_with(first|(go_at_call 124;refine(zCs _ _).mono ?_;rintro e w' ⟨rfl,rfl⟩;first|rw[f.out]|rw[g.out])|(go_at_call 105;refine(U _ c).mono ?_;rintro e w3 ⟨rfl,d⟩));go_ret;exact⟨zI (by rw[i.out];simp[t.out,x.out,u.out,af.out]),zC c d⟩
section
open Go.Shelf
theorem zQY{α:Type}{l:List α}{k:Nat}{P:α->Prop}(c:k<l.length)(h:∀p∈l.take k,P p)(d:P l[k]):∀p∈l.take (k+1),P p:=by
 intro p a;rw[List.take_succ_eq_append_getElem c]at a;rcases List.mem_append.1 a with b|b
 ·exact h p b
 rw[List.mem_singleton.1 b];exact d
def zU4(l:List zF)(n:Int)(w:World)(e:Ending)(w':World):Prop:=∃b:Bool,e= .returned (.bool b)/\Bw w w'/\(b=true->(l.length:Int)<=n/\∀x∈l,zH x.when_<=60)
theorem zM3(Z:zD)(v:Value)(l:List zF)(n:Int)(w:World)(h:zn Z w v l)(hz:∀b,Z b->b<w.heap.size):
  Calls prog 25 #[v,.int .i64 n] w (zU4 l n w):=by
 obtain⟨A,ac,rfl,ae⟩:=zj.form h;have O:=hid (λk(hk:k<l.length)=>zj.at_ h hk);have HZ:=hid hz;clear h hz;go_enter func25,ntmps25
 go_wp2_with fail
 go_loopw[5,6] (λiv _ wr=>∃k:Nat,k<=l.length/\iv= .int .i64 k/\Hid (∀x∈l.take k,zH x.when_<=60)/\Hid (Bw w wr)) (λiv _ _=>l.length-(intOf iv).toNat);case atStart=>exact⟨0,Nat.zero_le _,rfl,hid (by simp),hid (Below.refl _ _)⟩
 case round=>
  obtain⟨k,hk,rfl,t,c⟩:=hrel;by_cases G:k<l.length
  ·(have ad:(k:Int)<(l.length:Int):=by omega);by_cases F:(l.length:Int)<=n
   ·obtain⟨b,af,cs,rfl,Y,dc,H⟩:=O k G;obtain⟨N,i,rfl,D,-⟩:=H.form;have V:b<w.heap.size:=HZ b Y;obtain⟨T,c1,c2,c3,c4,c5,c6,c7,c8,c9,y,z⟩:=zBQ (λj u hu=>(c.cell (p:=⟨b,_,none⟩) V).trans (dc j u hu));have X:=lt_of_cell T;have f:=hid (λW(hW:Bw w W)=>zNr Z l[k].when_ _ 60 W (FmR.keep (zA.of_below_lt hW λb _ q=>HZ b q) _ _ D) (by decide) (by decide));have g:=hid (λ(h:zH l[k].when_ <=60)=>zQY (P:=λ(x:zF)=>zH x.when_<=60) G t h);clear dc H D;generalize l[k]=m at*;obtain⟨id,I,kd,M,⟨op,K,J,L,kids⟩,U,un,wi⟩:=m;simp only[Fm.op,Fm.name,Fm.cmp,Fm.num,Fm.kids]at f g T c1 c2 c3 c4 c5 c6 c7 c8 c9 y z;obtain⟨B,E⟩:∃B,zH (Fm.mk op K J L kids)=B:=⟨_,rfl⟩;rw[E]at f g;clear E;generalize kids.length=kl at*;(go_upto_region 5 with fail);have a:=hid (c.alloc c.size (.cells #[.string id,.string I,.int .i64 kd,.string M,.int .i64 op,.string K,.int .i64 J,.int .i64 L,.slice N kl i,.int .i64 U,.int .i64 un,.int .i64 wi] 54));have R:=hid (Blk.new wr 54 #[.string id,.string I,.int .i64 kd,.string M,.int .i64 op,.string K,.int .i64 J,.int .i64 L,.slice N kl i,.int .i64 U,.int .i64 un,.int .i64 wi]);clear T c1 c2 c3 c4 c5 c6 c7 c8 c9 y z X;generalize wr.alloc _=w5 at*;generalize wr.heap.size=X5 at*;obtain⟨p0,ai,p1,aj,p2,ak,p3,al,p4,ao,p5,ap,p6,aq,p7,ar,p8,av,p9,aw,ag,aa,ah,ab,pl⟩:=R.d12;by_cases h1:id.size<=60
    ·by_cases h2:I.size<=60
     ·by_cases h3:M.size<=60
      ·have d:=hid (f _ a);by_cases s:B<=60
       ·have HN:=hid (g s);have C:decide ((B:Int)<=60)=true:=decide_eq_true (by omega);rw[C]at d;clear g s C f;(go_wp2_with fail);refine d.mono ?_;rintro e w2 ⟨rfl,q⟩;have o:=hid (zC a q);clear q d;(go_wp2_with fail);go_roundw;(case rel=>exact⟨k+1,by omega,by go_num,HN,o⟩);case measure=>simp[intOf];omega
       have C:decide ((B:Int)<=60)=false:=decide_eq_false (by omega);rw[C]at d;clear g s C f;(go_wp2_with fail);refine d.mono ?_;rintro e w2 ⟨rfl,q⟩;have o:=hid (zC a q);clear q d;(go_wp2_with fail);go_ret;exact⟨false,rfl,o.out,λh=>by cases h⟩
      (go_wp2_with fail);go_ret;exact⟨false,rfl,a.out,λh=>by cases h⟩
     (go_wp2_with fail);go_ret;exact⟨false,rfl,a.out,λh=>by cases h⟩
    (go_wp2_with fail);go_ret;exact⟨false,rfl,a.out,λh=>by cases h⟩
   (go_wp2_with fail);go_ret;exact⟨false,rfl,c.out,λh=>by cases h⟩
  obtain rfl:k=l.length:=by omega
  have HA:=hid (show ∀x∈l,zH x.when_<=60 from by have h:=t.out;rwa[List.take_length]at h);by_cases F:(l.length:Int)<=n
  ·have Q:=hid F;(go_wp2_with fail);go_ret;exact⟨true,rfl,c.out,λ_=>⟨Q.out,HA⟩⟩
  go_wp2_with fail
  go_ret;exact⟨false,rfl,c.out,λh=>by cases h⟩
def zUK(s:zM)(w:World)(e:Ending)(w':World):Prop:=∃b:Bool,e= .returned (.bool b)/\Bw w w'/\(b=true->s.dom.length<=20/\s.auths.length<=8)
theorem zOt(Z:zD)(vd R U T:Value)(s:zM)(w:World)(h:zBq Z w vd R U T s)(hz:∀b,Z b->b<w.heap.size):
  Calls prog 26 #[.agg #[vd,R,U,T,.int .i64 s.signed,.int .i64 s.now]] w (zUK s w):=by
 obtain⟨F,j,rfl⟩:∃y g,vd= .slice y s.dom.length g:=by obtain⟨⟨y,g,e,_⟩,_⟩:=h.d;exact⟨y,g,e⟩
 obtain⟨G,m,rfl,-,-,ab⟩:=h.a.form;obtain⟨H,o,rfl,ac⟩:=zj.form h.z;obtain⟨E,i,rfl,aa⟩:=zj.form h.c;have M:=hid (λk(C:k<s.zones.length)=>zCy.at_ h.z C);have K:=hid (λk(C:k<s.cases.length)=>zDK.at_ h.c C);clear h hz;have u:=Blk.new w 30 #[.slice F s.dom.length j,.slice G s.auths.length m,.slice H s.zones.length o,.slice E s.cases.length i,.int .i64 s.signed,.int .i64 s.now];have A:=zG w (.cells #[.slice F s.dom.length j,.slice G s.auths.length m,.slice H s.zones.length o,.slice E s.cases.length i,.int .i64 s.signed,.int .i64 s.now] 30);go_enter func26,ntmps26
 go_upto_region 1 with fail
 generalize w.alloc _=w0 at*;have V:=u.at0;have W:=u.at1;have N:=u.at2;have I:=u.at3;have J:=u.lt;have f:=hid (And.intro u A);clear u A;by_cases X:s.dom.length<=20
 ·by_cases Y:s.auths.length<=8
  ·by_cases h3:s.zones.length<=8
   ·by_cases h4:s.cases.length<=8
    ·have L:=hid (And.intro X Y);(go_wp2_with fail);clear V W N I J;go_loopw[3] (λiv wr=>∃k:Nat,k<=s.zones.length/\iv= .int .i64 k/\wr=w0) (λiv _=>s.zones.length-(intOf iv).toNat);case atStart=>exact⟨0,Nat.zero_le _,rfl,by first|rfl|trivial⟩
     case round=>
      obtain⟨k,C,rfl,rfl⟩:=hrel;have N:=f.1.at2;have I:=f.1.at3;have J:=f.1.lt;by_cases P:k<s.zones.length
      ·obtain⟨b,Q,y,g,rfl,-,v,x,-⟩:=M k P;replace x:=brd f.2 x v;have B:=lt_of_cell x;(have O:(k:Int)<(s.zones.length:Int):=by omega);generalize (zA5 s.zones k).length =n at*;by_cases hn:n<=20
       ·(go_wp2_with fail);go_roundw;(case rel=>exact⟨k+1,by omega,by go_num,by first|rfl|trivial⟩);case measure=>simp[intOf];omega
       (go_wp2_with fail);go_ret;exact⟨false,rfl,f.2,λh=>by cases h⟩
      (obtain rfl:k=s.zones.length:=by omega);(go_wp2_with fail);go_loopw[4] (λiv wr=>∃k:Nat,k<=s.cases.length/\iv= .int .i64 k/\Hid (Blk wr w.heap.size 30 #[.slice F s.dom.length j,.slice G s.auths.length m,.slice H s.zones.length o,.slice E s.cases.length i,.int .i64 s.signed,.int .i64 s.now])/\Hid (Bw w wr)) (λiv _=>s.cases.length-(intOf iv).toNat);case atStart=>exact⟨0,Nat.zero_le _,rfl,hid f.1,hid f.2⟩
      case round=>
       obtain⟨k,C,rfl,t,q⟩:=hrel;clear N I J;have I:=t.at3;have J:=t.lt;by_cases D:k<s.cases.length
       ·obtain⟨b,Q,y,g,rfl,-,v,x,-⟩:=K k D;replace x:=brd q x v;have B:=lt_of_cell x;(have O:(k:Int)<(s.cases.length:Int):=by omega);generalize (s.cases.getD k []).length =n at*;by_cases hn:n<=30
        ·(go_wp2_with fail);go_roundw;(case rel=>exact⟨k+1,by omega,by go_num,t,q⟩);case measure=>simp[intOf];omega
        (go_wp2_with fail);go_ret;exact⟨false,rfl,q.out,λh=>by cases h⟩
       (obtain rfl:k=s.cases.length:=by omega);(go_wp2_with fail);go_ret;exact⟨true,rfl,q.out,λ_=>L⟩
    (go_wp2_with fail);go_ret;exact⟨false,rfl,f.2,λh=>by cases h⟩
   (go_wp2_with fail);go_ret;exact⟨false,rfl,f.2,λh=>by cases h⟩
  go_wp2_with fail
  go_ret;exact⟨false,rfl,f.2,λh=>by cases h⟩
 go_wp2_with fail
 go_ret;exact⟨false,rfl,f.2,λh=>by cases h⟩
end
end Go.Proofs.YtommaegelgilnaaGreatDoor
