/- Lemmas. -/
import Derived.Test.YtommaegelgilnaaGreatDoorM32
set_option linter.all false
namespace Go.Proofs.YtommaegelgilnaaGreatDoor
open Go.RowKit Go.Proofs.Tryz
set_option maxHeartbeats 8000000
set_option maxRecDepth 100000
theorem zQ9(E F G H I J j k:Value)(m:zF)(w:World)(X:zB2 m.id)(Y:zB2 m.auth)(Z:zB2 m.target):
  Calls prog 199 #[.agg #[.string m.id,.string m.auth,.int .i64 m.kind,.string m.target,E,F,G,H,I,J,j,k]] w λe w'=>e= .returned (.bool (zGd m))/\Bw w w':=by
 have q:=hid (zIC m.id X);have s:=hid (zIC m.auth Y);have t:=hid (zIC m.target Z);have y:=hid (show zGd m=(zAy m.id&&zAy m.auth&&(if m.kind=1 then decide (m.target=⟨#[]⟩)else if m.kind=2 then zAy m.target&&decide (m.target≠m.id)else if m.kind=3 then zAy m.target&&decide (m.target≠m.auth)else false)) from rfl);generalize zGd m=nm at*;generalize zAy m.id=T at*;generalize zAy m.auth=V at*;generalize zAy m.target=W at*;obtain⟨id,K,i,O,wh,fr,un,wi⟩:=m;dsimp only at q s t y⊢;clear X Y Z;have P:=hid (zG w (.cells #[.string id,.string K,.int .i64 i,.string O,E,F,G,H,I,J,j,k] 54));have D:=hid (Blk.new w 54 #[.string id,.string K,.int .i64 i,.string O,E,F,G,H,I,J,j,k]);go_enter func199,ntmps199
 go_upto_region 1 with fail
 generalize w.alloc _=w1 at*;go_cut[3] from 3 to 11 (λv wx=>v= .bool (T&&V)/\Bw w wx/\Blk wx w.heap.size 54 #[.string id,.string K,.int .i64 i,.string O,E,F,G,H,I,J,j,k])
 case first=>
  obtain⟨z,d,A,f,B⟩:=D.out.d2;go_wp2_with fail
  refine(q _).mono ?_;rintro e w2 ⟨rfl,c⟩;have a:=hid (zC P c);have b:=hid (D.below c D.lt);clear c D P q t z A d f B;cases T
  ·(go_wp2_with fail);go_meet;exact⟨rfl,a.out,b⟩
  have hq:=a.out;obtain⟨z,d,A,f,B⟩:=b.out.d2;go_wp2_with fail
  refine(s _).mono ?_;rintro e w3 ⟨rfl,c⟩;have g:=hid (zC a c);have R:=hid (b.below c b.lt);clear c b a s z A d f B;go_wp2_with fail
  go_meet;exact⟨by simp,g.out,R⟩
 case rest=>
  obtain⟨rfl,c,U⟩:=hcut;have a:=hid c;have b:=hid U;obtain⟨z,d,A,f,M,u,N,x,B⟩:=U.d4;clear c U D P q s;generalize (T&&V)=ok at*
  have hk:i=1\/((i==1)=false/\i=2)\/((i==1)=false/\(i==2)=false/\i=3)\/((i==1)=false/\(i==2)=false/\(i==3)=false):=by
   simp only[beq_eq_false_iff_ne,ne_eq];omega
  have Q:=hid (show ∀n:Int,(i==n)=false->¬i=n from λn h=>by simpa using h);cases ok
  ·rcases hk with rfl|⟨C,rfl⟩|⟨C,L,rfl⟩|⟨C,L,k3⟩
   all_goals
    (go_wp2_with fail);go_ret;exact⟨zI (by rw[y.out];simp),a⟩
  rcases hk with rfl|⟨C,rfl⟩|⟨C,L,rfl⟩|⟨C,L,k3⟩
  ·(go_wp2_with fail);go_ret;exact⟨zI (by rw[y.out];rw[zJi];simp),a⟩
  ·(go_wp2_with fail);refine(t _).mono ?_;rintro e w3 ⟨rfl,c⟩;have g:=hid (zC a c);have o:=b.below c b.lt;clear z A M N d f u x B c;cases W
   ·(go_wp2_with fail);go_ret;exact⟨zI (by rw[y.out];simp),g⟩
   have hq:=o.lt;obtain⟨z,d,A,f,M,u,N,x,B⟩:=o.d4;(go_wp2_with fail);go_ret;exact⟨zI (by rw[y.out,zBK];simp),g⟩
  ·(go_wp2_with fail);refine(t _).mono ?_;rintro e w3 ⟨rfl,c⟩;have g:=hid (zC a c);have o:=b.below c b.lt;clear z A M N d f u x B c;cases W
   ·(go_wp2_with fail);go_ret;exact⟨zI (by rw[y.out];simp),g⟩
   have hq:=o.lt;obtain⟨z,d,A,f,M,u,N,x,B⟩:=o.d4;(go_wp2_with fail);go_ret;exact⟨zI (by rw[y.out,zBK];simp),g⟩
  go_wp2_with fail
  go_ret;exact⟨zI (by rw[y.out];simp[Q 1 C,Q 2 L,Q 3 k3]),a⟩
theorem zQa(g i j k n o q s:Value)(m:zF)(w:World):
  Calls prog 200 #[.agg #[g,i,.int .i64 m.kind,j,k,n,o,q,s,.int .i64 m.from_,.int .i64 m.until_,.int .i64 m.wind]] w λe w'=>e= .returned (.bool (zFB m))/\Bw w w':=by
 have t:=hid (show zFB m=(decide (0<=m.from_)&&decide (m.from_<=100000)&&(decide (m.until_= -1)||decide (m.from_<m.until_)&&decide (m.until_<=100000))&&decide (0<=m.wind)&&decide (m.wind<=if m.kind=1 then 400 else 0)) from rfl);generalize zFB m=d at*;obtain⟨id,Z,c,tg,wh,a,un,f⟩:=m;dsimp only at t⊢;have D:=hid (zG w (.cells #[g,i,.int .i64 c,j,k,n,o,q,s,.int .i64 a,.int .i64 un,.int .i64 f] 54));have z:=hid (Blk.new w 54 #[g,i,.int .i64 c,j,k,n,o,q,s,.int .i64 a,.int .i64 un,.int .i64 f]);have J:un= -1\/((un== -1)=false/\¬a<un)\/((un== -1)=false/\a<un):=by simp only[beq_eq_false_iff_ne,ne_eq];omega
 have F:=hid (show(un== -1)=false->¬un= -1 from λh=>by simpa using h);have H:c=1\/(c==1)=false:=by simp only[beq_eq_false_iff_ne,ne_eq];omega
 have E:=hid (show(c==1)=false->¬c=1 from λh=>by simpa using h);go_enter func200,ntmps200
 go_upto_region 1 with fail
 generalize w.alloc _=X at*;obtain⟨p0,M,p1,N,p2,O,p3,P,p4,Q,p5,R,p6,T,p7,U,p8,V,p9,W,K,B,L,C,pl⟩:=z.d12;clear z;obtain⟨u,b⟩:∃u,u=(decide (un= -1)||decide (a<un)&&decide (un<=100000)):=⟨_,rfl⟩;rw[<-b]at t;have x:=hid b;clear b;have I:¬0<=a\/(0<=a/\¬a<=100000)\/(0<=a/\a<=100000/\¬0<=f)\/(0<=a/\a<=100000/\0<=f):=by omega
 rcases H with rfl|k1
 all_goals
  go_upto_region 4 with fail
  go_cut[4] from 4 to 22 (λv Y=>v= .bool u/\Y=X)
  case first=>
   rcases J with rfl|⟨u1,u2⟩|⟨u1,u2⟩
   all_goals
    (go_wp2_with fail);go_meet;exact⟨by rw[x.out];have:=F.out;grind,rfl⟩
  case rest=>
   obtain⟨rfl,rfl⟩:=hcut;rcases I with y|⟨y,A⟩|⟨y,A,G⟩|⟨y,A,G⟩;all_goals cases u
   all_goals
    (go_wp2_with fail);go_ret;exact⟨zI (by rw[t.out];have:=E.out;grind),D⟩
theorem zQb(Z:zD)(m:zF)(cs:List Value)(vd:Value)(ds:List zE)(w:World)(h:zBs Z w cs m)(R:Facts Z w vd ds)(hs:zH m.when_<=1000000)(J:∀b,Z b->b<w.heap.size):
  Calls prog 147 #[.agg cs.toArray,.agg #[vd]] w λe w'=>e= .returned (.int .i64 (zBA ds m))/\Bw w w':=by
 obtain⟨H,c,rfl,hf,s1,s2,s3,-⟩:=h.form;have HV:=hid (λW(I:Bw w W)=>zDF Z vd ds W (R.keep (.of_below_lt I λb _ a=>J b a)));have HN:=hid (λW=>zQ9 (.int .i64 m.when_.op) (.string m.when_.name) (.int .i64 m.when_.cmp) (.int .i64 m.when_.num) (.slice H m.when_.kids.length c) (.int .i64 m.from_) (.int .i64 m.until_) (.int .i64 m.wind) m W s1 s2 s3);have HD:=hid (λW=>zQa (.string m.id) (.string m.auth) (.string m.target) (.int .i64 m.when_.op) (.string m.when_.name) (.int .i64 m.when_.cmp) (.int .i64 m.when_.num) (.slice H m.when_.kids.length c) m W);have HC:=hid (λW(I:Bw w W)=>zIo Z vd ds m.when_ _ W (FmR.keep (.of_below_lt I λb _ a=>J b a) _ _ hf) (R.keep (.of_below_lt I λb _ a=>J b a)) (by omega) (λb a=>Nat.lt_of_lt_of_le (J b a) I.size));have M:=hid (show zBA ds m=(if zT ds=false\/zGd m=false then 1 else if zFB m=false then 10 else zBY ds m.when_) from rfl);obtain⟨L,d,rfl⟩:∃A2 i,vd= .slice A2 ds.length i:=by obtain⟨⟨A2,i,e,_⟩,_⟩:=R;exact⟨A2,i,e⟩
 generalize zBA ds m=mv at*;generalize zT ds=b1 at*;generalize zGd m=b2 at*;generalize zFB m=b3 at*;generalize zBY ds m.when_=ck at*;clear h R hs J hf s1 s2 s3;obtain⟨id,O,U,tg,⟨op,X,P,Y,kids⟩,Q,un,wi⟩:=m;simp only[Fm.op,Fm.name,Fm.cmp,Fm.num,Fm.kids]at HN HD HC⊢;generalize kids.length=V at*;have HB:=hid ((zG w (.cells #[.string id,.string O,.int .i64 U,.string tg,.int .i64 op,.string X,.int .i64 P,.int .i64 Y,.slice H V c,.int .i64 Q,.int .i64 un,.int .i64 wi] 54)).alloc (by simp) (.cells #[.slice L ds.length d] 25));have HX:=hid ((Blk.new w 54 #[.string id,.string O,.int .i64 U,.string tg,.int .i64 op,.string X,.int .i64 P,.int .i64 Y,.slice H V c,.int .i64 Q,.int .i64 un,.int .i64 wi]).alloc (.cells #[.slice L ds.length d] 25));have hY:=Blk.new (w.alloc (.cells #[.string id,.string O,.int .i64 U,.string tg,.int .i64 op,.string X,.int .i64 P,.int .i64 Y,.slice H V c,.int .i64 Q,.int .i64 un,.int .i64 wi] 54)) 25 #[.slice L ds.length d];rw[World.size_alloc]at hY;have N:=hid hY;clear hY;go_enter func147,ntmps147
 go_upto_region 1 with fail
 generalize (w.alloc _).alloc _=w1 at*;obtain⟨q0,K,ql⟩:=N.out.d1;go_wp2_with fail
 refine(HV _ HB).mono ?_;rintro e w2 ⟨rfl,a⟩;have j:=hid (zC HB a);have o:=hid (HX.below a HX.lt);have F:=hid (N.below a N.lt);clear a HB HX N HV q0 K ql;cases b1
 ·go_wp2_with fail
  go_ret;exact⟨by rw[M.out];rfl,j⟩
 have T:=j.out;obtain⟨p0,u,p1,v,p2,x,p3,y,p4,z,p5,A,p6,B,p7,C,p8,D,p9,E,s,f,t,g,pl⟩:=o.d12;go_wp2_with fail
 refine(HN _).mono ?_;rintro e w3 ⟨rfl,a⟩;have k:=hid (zC j a);have q:=hid (o.below a o.lt);have G:=hid (F.below a F.lt);clear a j o F HN T p0 p1 p2 p3 p4 p5 p6 p7 p8 p9 s t pl u v x y z A B C D E f g;cases b2
 ·go_wp2_with fail
  go_ret;exact⟨by rw[M.out];rfl,k⟩
 have T:=k.out;obtain⟨p0,u,p1,v,p2,x,p3,y,p4,z,p5,A,p6,B,p7,C,p8,D,p9,E,s,f,t,g,pl⟩:=q.d12;go_wp2_with fail
 refine(HD _).mono ?_;rintro e w4 ⟨rfl,a⟩;have n:=hid (zC k a);have aa:=hid (q.below a q.lt);have ab:=hid (G.below a G.lt);clear a k q G HD T p0 p1 p2 p3 p4 p5 p6 p7 p8 p9 s t pl u v x y z A B C D E f g;cases b3
 ·go_wp2_with fail
  go_ret;exact⟨by rw[M.out];rfl,n⟩
 have T:=n.out;obtain⟨p0,u,p1,v,p2,x,p3,y,p4,z,p5,A,p6,B,p7,C,p8,D,p9,E,s,f,t,g,pl⟩:=aa.d12;obtain⟨q0,K,ql⟩:=ab.out.d1;go_wp2_with fail
 refine(HC _ n).mono ?_;rintro e w5 ⟨rfl,a⟩;go_wp2_with fail
 go_ret;exact⟨by rw[M.out];rfl,zC n a⟩
theorem Tryz.egVL1:∀args w,(callFunc 96 args).run prog w= .ok (.enter 96 args) w:=enters_of func96 (by kernel_rfl) rfl
theorem zRx(n first:Int)(B:Nat)(w:World)(h:w.cell? ⟨B,0,none⟩=some (.int .i64 first)):
  Calls prog 96 #[.int .i64 n,.pointer (some ⟨B,0,none⟩)] w λe w'=>e= .returned (.bool (decide (n≠first)))/\w'=w:=by
 have a:=lt_of_cell h;go_enter func96,ntmps96
 go_wp2_with fail
 go_ret;exact⟨zI (by rw[Bool.eq_iff_iff];simp),rfl⟩
theorem zOD(first a b:Int)(Y:Nat)(w:World)(g:w.cell? ⟨Y,0,none⟩=some (.int .i64 a))(h:w.cell? ⟨Y,1,none⟩=some (.int .i64 b)):
  Calls prog 49 #[.int .i64 first,.slice (some ⟨Y,0,none⟩) 2 2] w λe w'=>e= .returned (.bool (decide (a=first)&&decide (b=first)))/\Bw w w':=by
 have k:=hid (zG w (.cells #[.int .i64 first] 3));have s:=hid (Blk.new w 3 #[.int .i64 first]);have i:=hid (zD5 g (.cells #[.int .i64 first] 3));have c:=hid (zD5 h (.cells #[.int .i64 first] 3))
 have m:=hid (λW(f:Blk W w.heap.size 3 #[.int .i64 first])(u:W.cell? ⟨Y,0,none⟩=some (.int .i64 a))(d:W.cell? ⟨Y,1,none⟩=some (.int .i64 b))=>
  Tryz.slices_ContainsFunc (.int .i64) (λn=>decide (n≠first)) 96 #[.pointer (some ⟨w.heap.size,0,none⟩)] Tryz.egVL1 Y 0 2 2 [a,b] W
   (λt x v=>(zRx x first w.heap.size t ((f.below v f.lt).at0)).mono λe w' ⟨d,h2⟩=>⟨d,0,by rw[h2];rfl⟩) (by simp) (by omega) (λj y=>by
   (have:j=0\/j=1:=by simp at y;omega);rcases this with rfl|rfl
   ·simpa using u
   simpa using d))
 have o:=hid (show(!(([a,b].take 2).any λn=>decide (n≠first)))=(decide (a=first)&&decide (b=first)) from by simp);clear g h;go_enter func49,ntmps49
 go_upto_region 1 with fail
 generalize w.alloc _=z at*;go_wp2_with fail
 refine(m _ s i c).mono ?_;rintro e A ⟨rfl,q,rfl⟩;go_wp2_with fail
 go_ret;exact⟨zI (by rw[<-o.out]),below_drewN' k _⟩
def zLo(s:zM)(k:Nat):Bool:=zCV s.auths s.zones k&&fits s.dom (zDb s k)
theorem zUQ{s:zM}(h:∀j,j<s.auths.length->zLo s j=true):(List.range s.auths.length).all (λi=>zCV s.auths s.zones i&&fits s.dom (zDb s i))=true:=by
 rw[List.all_eq_true];exact λj a=>h j (List.mem_range.1 a)
theorem zUR{s:zM}{k:Nat}(b:k<s.auths.length)(h:zLo s k=false):zCR s=false:=by
 cases a:zCR s with
 |false=>rfl
 |true=>
 unfold zCR at a;simp only[Bool.and_eq_true,List.all_eq_true,List.mem_range]at a;have:=a.1.1.1.2 k b;unfold zLo at h;rw[this.1,this.2]at h;cases h
theorem zJr(Z:zD)(vd va vz vc:Value)(s:zM)(w:World)(h:zBq Z w vd va vz vc s)(hz:∀b,Z b->b<w.heap.size):
  Calls prog 17 #[.agg #[vd,va,vz,vc,.int .i64 s.signed,.int .i64 s.now]] w λe w'=>e= .returned (.bool (zCR s))/\Bw w w':=by
 obtain⟨DA,C,rfl⟩:∃A2 Y,vd= .slice A2 s.dom.length Y:=by obtain⟨⟨A2,Y,e,_⟩,_⟩:=h.d;exact⟨A2,Y,e⟩
 obtain⟨NA,F,rfl,-,-,cn⟩:=h.a.form;obtain⟨ZA,G,rfl,cp⟩:=h.z.form;obtain⟨CA,B,rfl,cj⟩:=h.c.form;have ax:=hid (λW(hW:Bw w W)=>zDF Z _ s.dom W (h.d.keep (.of_below_lt hW λb _ u=>hz b u)));have bq:=hid (λk(hk:k<s.auths.length)=>h.a.at_ hk);have bv:=hid (λk(hk:k<s.zones.length)=>zCy.at_ h.z hk);have bm:=hid (λk(hk:k<s.cases.length)=>zDK.at_ h.c hk);have br:=hid h.a.fit;have HZ:=hid hz;have bn:=hid (λW(hW:Bw w W)=>h.d.keep (.of_below_lt hW λb _ u=>hz b u));have aw:=hid (λk=> @zUR s k);have au:=hid (@zUQ s);have cm:= @run_makeMap prog
 have HP:=hid (show zCR s=(decide (1<=s.auths.length)&&decide (s.auths.length<=6)&&decide (s.zones.length=s.auths.length)&&decide (s.cases.length=s.auths.length)&&zT s.dom
  &&(List.range s.auths.length).all (λi=>zCV s.auths s.zones i&&fits s.dom (zDb s i))&&decide (0<=s.signed)&&decide (s.signed<=s.now)&&decide (s.now<=144001439)) from rfl)
 have HB:=hid (zG w (.cells #[.slice DA s.dom.length C,.slice NA s.auths.length F,.slice ZA s.zones.length G,.slice CA s.cases.length B,.int .i64 s.signed,.int .i64 s.now] 30));have HX:=hid (Blk.new w 30 #[.slice DA s.dom.length C,.slice NA s.auths.length F,.slice ZA s.zones.length G,.slice CA s.cases.length B,.int .i64 s.signed,.int .i64 s.now]);clear h hz;generalize zCR s=P at*;go_enter func17,ntmps17
 go_upto_region 1 with fail
 generalize w.alloc _=w1 at*;obtain⟨p0,N,p1,O,p2,Q,p3,R,p4,T,p5,U,pl⟩:=HX.out.d6;have hn:s.auths.length<1\/(¬s.auths.length<1/\6<s.auths.length)\/(¬s.auths.length<1/\¬6<s.auths.length):=by omega
 rcases hn with h1|⟨h1,h2⟩|⟨h1,h2⟩
 ·have a3:(s.auths.length:Int)<1:=by omega
  go_wp2_with fail
  go_ret;exact⟨zI (by rw[HP.out,show decide (1<=s.auths.length)=false from decide_eq_false (by omega)];simp),HB⟩
 ·have a3:¬(s.auths.length:Int)<1:=by omega
  have b0:6<(s.auths.length:Int):=by omega
  go_wp2_with fail
  go_ret;exact⟨zI (by rw[HP.out,show decide (s.auths.length<=6)=false from decide_eq_false (by omega)];simp),HB⟩
 have a3:¬(s.auths.length:Int)<1:=by omega
 have b0:¬6<(s.auths.length:Int):=by omega
 go_wp2_with fail
 have hY:=Blk.new w1 3 #[.int .i64 (s.zones.length:Nat),.int .i64 (s.cases.length:Nat)];refine(zOD _ _ _ _ _ hY.at0 hY.at1).mono ?_;rintro e w2 ⟨rfl,u⟩;have y:=hid (zC (HB.alloc HB.size _) u);have ae:=hid ((HX.alloc (.cells #[.int .i64 (s.zones.length:Nat),.int .i64 (s.cases.length:Nat)] 3)).below u (by simp;have:=HX.lt;omega));clear u hY p0 p1 p2 p3 p4 p5 N O Q R T U pl HB HX;by_cases b5:s.zones.length=s.auths.length/\s.cases.length=s.auths.length
 ·obtain⟨E,D⟩:=b5;rw[show(decide (((s.zones.length:Nat):Int)=((s.auths.length:Nat):Int))&&decide (((s.cases.length:Nat):Int)=((s.auths.length:Nat):Int)))=true from by rw[E,D];simp];have hq:=y.out;obtain⟨p0,N,p1,O,p2,Q,p3,R,p4,T,p5,U,pl⟩:=ae.out.d6;go_wp2_with fail
  refine(ax _ y).mono ?_;rintro e w3 ⟨rfl,u⟩;have X:=hid (zC y u);have af:=hid (ae.below u ae.lt);clear u hq p0 p1 p2 p3 p4 p5 N O Q R T U pl y ae ax;obtain⟨bd,ap⟩:∃b,zT s.dom=b:=⟨_,rfl⟩;rw[ap]at HP⊢;have ci:=hid ap;clear ap;cases bd
  ·(go_wp2_with fail);go_ret;exact⟨zI (by rw[HP.out];simp),X⟩
  have bs:=hid (show P=((List.range s.auths.length).all (λi=>zCV s.auths s.zones i&&fits s.dom (zDb s i))&&decide (0<=s.signed)&&decide (s.signed<=s.now)&&decide (s.now<=144001439)) from by
   rw[HP.out,decide_eq_true (show 1<=s.auths.length by omega),decide_eq_true (show s.auths.length<=6 by omega),decide_eq_true E,decide_eq_true D];simp)
  have hq:=X.out;obtain⟨p0,N,p1,O,p2,Q,p3,R,p4,T,p5,U,pl⟩:=af.out.d6;go_wp2_with fail
  have al:=hid (zS.made w3 encS);have av:=hid (X.alloc X.size (.map #[] 0));have ao:=hid (af.alloc (.map #[] 0));clear hq p0 p1 p2 p3 p4 p5 N O Q R T U pl;obtain⟨M,hM⟩:∃M,w3.heap.size=M:=⟨_,rfl⟩;have a4:w.heap.size<M:=by have:=af.lt;omega
  have b2:w.heap.size<=M:=Nat.le_of_lt a4;rw[hM]at al⊢;generalize w3.alloc (.map #[] 0)=w4 at*;clear X af;rw[E,D]at ao;have ay:=hid (And.intro E D);clear HP E D;go_loopw[5,6,38] (λv5 v6 i wr=>∃(k:Nat)(kv:List (ByteArray × Value)),k<=s.auths.length/\i= .int .i64 k/\zS encS wr M kv/\Blk wr w.heap.size 30 #[.slice DA s.dom.length C,.slice NA s.auths.length F,.slice ZA s.auths.length G,.slice CA s.auths.length B,.int .i64 s.signed,.int .i64 s.now]/\Bw w wr/\Hid (∀j,j<k->zLo s j=true)/\Hid (zDZ kv (s.auths.take k))) (λ_ _ i _=>s.auths.length-(intOf i).toNat);case atStart=>exact⟨0,[],Nat.zero_le _,rfl,al.out,ao.out,av.out,λj h=>absurd h (Nat.not_lt_zero j),λx=>⟨λh=>by simp at h,λ_=>rfl⟩⟩
  case round=>
   obtain⟨k,kv,hk,rfl,L,ah,q,bc,ab⟩:=hrel;clear al av ao;by_cases I:k<s.auths.length
   ·obtain⟨b,ca,rfl,b9,a5,d0⟩:=bq k I;have c0:=brd q d0 a5;have b3:=lt_of_cell c0;obtain⟨zb,zo,bw,cd,rfl,-,aj,dz,bh⟩:=bv k (by rw[ay.1];exact I);obtain⟨cb,co,bk,bx,rfl,-,ai,dc,a6⟩:=bm k (by rw[ay.2];exact I);have cz:=brd q dz aj;have cc:=brd q dc ai;have bb:=lt_of_cell cz;have a9:=lt_of_cell cc;have aq:=br s.auths[k] (List.getElem_mem I);(have a7:s.auths.getD k ⟨#[]⟩=s.auths[k]:=by simp[I]);have H:=hid (show zLo s k=((zAy s.auths[k]&&zBn (zA5 s.zones k)&& !decide (s.auths[k]∈s.auths.take k))&&fits s.dom (s.cases.getD k [])) from by unfold zLo zCV zDb;rw[a7]);have bj:=hid (zXN I);have ac:=hid (aw k I);have bi:=ab.look s.auths[k];have a0:=hid (λ(x:ByteArray)(hx:x=s.auths[k])=>hx▸ab.add s.auths[k]);have a2:=hid (λx(hx:zA (λ_=>True) wr x)=>zGG Z _ _ x (bh.keep (.of_below_lt (zC q hx.below) (λb _ u=>HZ b u))));have bo:=hid (λx(hx:zA (λ_=>True) wr x)=>zIi Z _ _ s.dom (s.cases.getD k []) x (bn x (zC q hx.below)) (a6.keep (.of_below_lt (zC q hx.below) (λb _ u=>HZ b u))));obtain⟨nm,ar⟩:∃nm,nm=s.auths[k]:=⟨_,rfl⟩;have a1:=hid (a0 nm ar);rw[<-ar]at H c0 aq bj bi;have ad:=hid (λx=>zRn nm aq x);clear ar a0 d0 dz dc bh a6 a7 aj ai b9 a5;generalize zAy nm=b1 at*;generalize (zA5 s.zones k).length =ce at*;generalize zBn (zA5 s.zones k)=zv at*;generalize fits s.dom (s.cases.getD k [])=ft at*;generalize (s.cases.getD k []).length =bz at*;obtain⟨sb,bf,aa⟩:=bi;(have bg:decide (nm∈s.auths.take k)=sb:=by cases sb<;>simp at aa⊢ <;>exact aa);rw[bg]at H
    have ak:=hid (λ(W:World)(hW:zA (λ_=>True) wr W)=>(show(Instr.lookup 95 (.map (some M)) (.string nm) false).run prog W= .ok (.bool sb) W from by
     have b7:zS encS W M kv:=L.of_block (hW.block M L.lt trivial);have:=zS.look (w:=W) b7 (zAK (P:=prog) (k:=9) underlying9) (t:=95) (e:=4) underlying95 (Tryz.zero4 _) nm false
     simpa[encS,bf]using this))
    have az:=hid L;have bu:=hid ah;have A:=hid q
    have HC:=hid (λ(W:World)(hW:zA (λ_=>True) wr W)=>(show W.cell? ⟨w.heap.size,0,none⟩=some (.slice DA s.dom.length C)/\W.cell? ⟨w.heap.size,1,none⟩=some (.slice (some ⟨b,ca,none⟩) s.auths.length F)/\W.cell? ⟨w.heap.size,2,none⟩=some (.slice (some ⟨zb,zo,none⟩) s.auths.length G)/\W.cell? ⟨w.heap.size,3,none⟩=some (.slice (some ⟨cb,co,none⟩) s.auths.length B)/\w.heap.size<W.heap.size/\W.cell? ⟨zb,zo+k,none⟩=some (.slice bw ce cd)/\zb<W.heap.size/\W.cell? ⟨cb,co+k,none⟩=some (.slice bk bz bx)/\cb<W.heap.size from by
     have h1:=ah.keep hW trivial
     exact⟨h1.at0,h1.at1,h1.at2,h1.at3,h1.lt,hW.cell trivial cz,Nat.lt_of_lt_of_le bb hW.size,hW.cell trivial cc,Nat.lt_of_lt_of_le a9 hW.size⟩))
    (have ck:(k:Int)<(s.auths.length:Int):=by omega);clear bf aa bg L ah q cz cc bb a9 aq;(go_upto_region 8 with fail);clear c0 b3;cases b1
    ·skip
     refine zY 27 (λW=>zA (λ_=>True) wr W) (by kernel_rfl) ?_;have f:(λW:World=>zA (λ_=>True) wr W) wr.drew:=(zA.refl _ _).drew;have n:zA (λ_=>True) wr wr.drew:=(zA.refl _ _).drew;generalize wr.drew=V at*
     (refine tkQ 0 f ?_;simp only[nr])
     (try simp only[nq]);clear f;refine wS1 1 (λK o=> ?_);(go_wp2_with fail);refine(ad V).mono ?_;rintro e x1 ⟨rfl,J⟩;subst J;have m:=n;refine o _ _ (Or.inr m) ?_;clear o K
     (try simp only[nr])
     have f:(λW:World=>zA (λ_=>True) wr W) V:=m
     (refine tkQ 2 f ?_;simp only[nr])
     try simp only[nq]
     (refine tkQ 3 f ?_;simp only[nr])
     (try simp only[nq]);refine tkN 4 f ?_;(try simp only[nq]);refine tkN 5 f ?_;(try simp only[nq]);refine tkN 6 f ?_;try simp only[nq]
     (refine tkQ 7 f ?_;simp only[nr])
     try simp only[nq]
     (refine tkQ 8 f ?_;simp only[nr])
     (try simp only[nq]);refine tkN 9 f ?_;(try simp only[nq]);refine tkN 10 f ?_;(try simp only[nq]);refine tkN 11 f ?_;(try simp only[nq]);refine tkN 12 f ?_;(try simp only[nq]);refine tkN 13 f ?_;(try simp only[nq]);refine tkN 14 f ?_;(try simp only[nq]);refine tkN 15 f ?_;try simp only[nq]
     (refine tkQ 16 f ?_;simp only[nr])
     try simp only[nq]
     (refine tkQ 17 f ?_;simp only[nr])
     (try simp only[nq]);refine tkN 18 f ?_;(try simp only[nq]);refine tkN 19 f ?_;(try simp only[nq]);refine tkN 20 f ?_;(try simp only[nq]);refine tkN 21 f ?_;(try simp only[nq]);refine tkN 22 f ?_;(try simp only[nq]);refine tkN 23 f ?_;(try simp only[nq]);refine tkN 24 f ?_;(try simp only[nq]);refine tkN 25 f ?_;(try simp only[nq]);refine tkN 26 f ?_;(try simp only[nq]);clear f;refine wS1 27 (λK o=> ?_);(go_wp2_with fail);refine o _ _ (Or.inl rfl) ?_;clear o K;(try simp only[nq]);refine wSd ?_ _;have v:=hid n;clear n;(go_wp2_with fail);go_ret;exact⟨zI (ac (by rw[H.out];simp)).symm,zC A v.below⟩
    cases sb
    ·cases zv
     ·skip
      refine zY 27 (λW=>zA (λ_=>True) wr W) (by kernel_rfl) ?_;have f:(λW:World=>zA (λ_=>True) wr W) wr.drew:=(zA.refl _ _).drew;have n:zA (λ_=>True) wr wr.drew:=(zA.refl _ _).drew;generalize wr.drew=V at*
      (refine tkQ 0 f ?_;simp only[nr])
      (try simp only[nq]);clear f;refine wS1 1 (λK o=> ?_);(go_wp2_with fail);refine(ad V).mono ?_;rintro e x1 ⟨rfl,J⟩;subst J;have m:=n;refine o _ _ (Or.inr m) ?_;clear o K
      (try simp only[nr])
      have f:(λW:World=>zA (λ_=>True) wr W) V:=m
      (refine tkQ 2 f ?_;simp only[nr])
      try simp only[nq]
      (refine tkQ 3 f ?_;simp only[nr])
      try simp only[nq]
      (refine tkQ 4 f ?_;simp only[nr])
      try simp only[nq]
      (refine tkQ 5 f ?_;simp only[nr])
      try simp only[nq]
      (refine tkC 6 [7,8,14,17,27] ?_ f ?_ ?_;rotate_left;intro w g;have ba:=ak _ g;clear g;go_simp;(try with_reducible rfl);simp only[nr])
      try simp only[nq]
      (refine tkQ 7 f ?_;simp only[nr])
      try simp only[nq]
      (refine tkQ 8 f ?_;simp only[nr])
      try simp only[nq]
      (refine tkQ 9 f ?_;simp only[nr])
      try simp only[nq]
      (refine tkC 10 [12,13,14,17,27] ?_ f ?_ ?_;rotate_left;intro w g;obtain⟨s0,s1,s2,s3,sl,z0,zl,c0,cl⟩:=HC _ g;clear g;go_simp;(try with_reducible rfl);simp only[nr])
      try simp only[nq]
      (refine tkQ 11 f ?_;simp only[nr])
      try simp only[nq]
      (refine tkQ 12 f ?_;simp only[nr])
      try simp only[nq]
      (refine tkC 13 [14,17,27] ?_ f ?_ ?_;rotate_left;intro w g;obtain⟨s0,s1,s2,s3,sl,z0,zl,c0,cl⟩:=HC _ g;clear g;go_simp;(try with_reducible rfl);simp only[nr])
      (try simp only[nq]);clear f;refine wSG 14 (λK o=> ?_);(go_wp2_with fail);refine(a2 V n).mono ?_;rintro e x1 ⟨rfl,u⟩;have m:zA (λ_=>True) wr x1:=n.trans (.of_below u);refine o _ _ (Or.inr m) ?_;clear o K u
      (try simp only[nr])
      have f:(λW:World=>zA (λ_=>True) wr W) x1:=m
      (refine tkQ 15 f ?_;simp only[nr])
      try simp only[nq]
      (refine tkQ 16 f ?_;simp only[nr])
      try simp only[nq]
      (refine tkQ 17 f ?_;simp only[nr])
      (try simp only[nq]);refine tkN 18 f ?_;(try simp only[nq]);refine tkN 19 f ?_;(try simp only[nq]);refine tkN 20 f ?_;(try simp only[nq]);refine tkN 21 f ?_;(try simp only[nq]);refine tkN 22 f ?_;(try simp only[nq]);refine tkN 23 f ?_;(try simp only[nq]);refine tkN 24 f ?_;(try simp only[nq]);refine tkN 25 f ?_;(try simp only[nq]);refine tkN 26 f ?_;(try simp only[nq]);clear f;refine wS1 27 (λK o=> ?_);(go_wp2_with fail);refine o _ _ (Or.inl rfl) ?_;clear o K;(try simp only[nq]);refine wSd ?_ _;have v:=hid m;clear n m;(go_wp2_with fail);go_ret;exact⟨zI (ac (by rw[H.out];simp)).symm,zC A v.below⟩
     skip
     refine zY 27 (λW=>zA (λ_=>True) wr W) (by kernel_rfl) ?_;have f:(λW:World=>zA (λ_=>True) wr W) wr.drew:=(zA.refl _ _).drew;have n:zA (λ_=>True) wr wr.drew:=(zA.refl _ _).drew;generalize wr.drew=V at*
     (refine tkQ 0 f ?_;simp only[nr])
     (try simp only[nq]);clear f;refine wS1 1 (λK o=> ?_);(go_wp2_with fail);refine(ad V).mono ?_;rintro e x1 ⟨rfl,J⟩;subst J;have m:=n;refine o _ _ (Or.inr m) ?_;clear o K
     (try simp only[nr])
     have f:(λW:World=>zA (λ_=>True) wr W) V:=m
     (refine tkQ 2 f ?_;simp only[nr])
     try simp only[nq]
     (refine tkQ 3 f ?_;simp only[nr])
     try simp only[nq]
     (refine tkQ 4 f ?_;simp only[nr])
     try simp only[nq]
     (refine tkQ 5 f ?_;simp only[nr])
     try simp only[nq]
     (refine tkC 6 [7,8,14,17,27] ?_ f ?_ ?_;rotate_left;intro w g;have ba:=ak _ g;clear g;go_simp;(try with_reducible rfl);simp only[nr])
     try simp only[nq]
     (refine tkQ 7 f ?_;simp only[nr])
     try simp only[nq]
     (refine tkQ 8 f ?_;simp only[nr])
     try simp only[nq]
     (refine tkQ 9 f ?_;simp only[nr])
     try simp only[nq]
     (refine tkC 10 [12,13,14,17,27] ?_ f ?_ ?_;rotate_left;intro w g;obtain⟨s0,s1,s2,s3,sl,z0,zl,c0,cl⟩:=HC _ g;clear g;go_simp;(try with_reducible rfl);simp only[nr])
     try simp only[nq]
     (refine tkQ 11 f ?_;simp only[nr])
     try simp only[nq]
     (refine tkQ 12 f ?_;simp only[nr])
     try simp only[nq]
     (refine tkC 13 [14,17,27] ?_ f ?_ ?_;rotate_left;intro w g;obtain⟨s0,s1,s2,s3,sl,z0,zl,c0,cl⟩:=HC _ g;clear g;go_simp;(try with_reducible rfl);simp only[nr])
     (try simp only[nq]);clear f;refine wSG 14 (λK o=> ?_);(go_wp2_with fail);refine(a2 V n).mono ?_;rintro e x1 ⟨rfl,u⟩;have m:zA (λ_=>True) wr x1:=n.trans (.of_below u);refine o _ _ (Or.inr m) ?_;clear o K u
     (try simp only[nr])
     have f:(λW:World=>zA (λ_=>True) wr W) x1:=m
     (refine tkQ 15 f ?_;simp only[nr])
     try simp only[nq]
     (refine tkQ 16 f ?_;simp only[nr])
     try simp only[nq]
     (refine tkQ 17 f ?_;simp only[nr])
     try simp only[nq]
     (refine tkQ 18 f ?_;simp only[nr])
     try simp only[nq]
     (refine tkC 19 [25,26,27] ?_ f ?_ ?_;rotate_left;intro w g;obtain⟨s0,s1,s2,s3,sl,z0,zl,c0,cl⟩:=HC _ g;clear g;go_simp;(try with_reducible rfl);simp only[nr])
     try simp only[nq]
     (refine tkQ 20 f ?_;simp only[nr])
     try simp only[nq]
     (refine tkC 21 [23,24,25,26,27] ?_ f ?_ ?_;rotate_left;intro w g;obtain⟨s0,s1,s2,s3,sl,z0,zl,c0,cl⟩:=HC _ g;clear g;go_simp;(try with_reducible rfl);simp only[nr])
     try simp only[nq]
     (refine tkQ 22 f ?_;simp only[nr])
     try simp only[nq]
     (refine tkQ 23 f ?_;simp only[nr])
     try simp only[nq]
     (refine tkC 24 [25,26,27] ?_ f ?_ ?_;rotate_left;intro w g;obtain⟨s0,s1,s2,s3,sl,z0,zl,c0,cl⟩:=HC _ g;clear g;go_simp;(try with_reducible rfl);simp only[nr])
     (try simp only[nq]);clear f;refine wSG 25 (λK o=> ?_);(go_wp2_with fail);refine(bo x1 m).mono ?_;rintro e x2 ⟨rfl,u⟩;have ag:zA (λ_=>True) wr x2:=m.trans (.of_below u);refine o _ _ (Or.inr ag) ?_;clear o K u
     (try simp only[nr])
     have f:(λW:World=>zA (λ_=>True) wr W) x2:=ag
     (refine tkQ 26 f ?_;simp only[nr])
     (try simp only[nq]);clear f;refine wS1 27 (λK o=> ?_);(go_wp2_with fail);refine o _ _ (Or.inl rfl) ?_;clear o K;(try simp only[nq]);refine wSd ?_ _;have v:=hid ag;clear n m ag;cases ft
     ·(go_wp2_with fail);go_ret;exact⟨zI (ac (by rw[H.out];simp)).symm,zC A v.below⟩
     have bp:=hid (az.of_block (v.block M az.lt trivial));have bt:=hid (bu.keep v trivial);have y:=hid (zC A v.below);go_wp2_with(at_mapUpdate;refine zA6 rfl (.tmp 71) (.tmp 72) _ rfl (zAK (P:=prog) (k:=9) underlying9) (e:=4) underlying95 rfl bp nm rfl ?_;intro w9 b6 a8 ch cf cg);go_roundw
     case rel=>
      refine⟨k+1,_,by omega,by go_num,b6,bt.keep a8 (Nat.ne_of_lt a4),zAG y a8 b2 y.size,λj hj=> ?_,?_⟩
      ·by_cases e:j=k
       ·subst e;rw[H.out];simp
       exact bc j (by omega)
      rw[bj.out];exact a1.out
     case measure=>simp[intOf];omega
    skip
    refine zY 27 (λW=>zA (λ_=>True) wr W) (by kernel_rfl) ?_;have f:(λW:World=>zA (λ_=>True) wr W) wr.drew:=(zA.refl _ _).drew;have n:zA (λ_=>True) wr wr.drew:=(zA.refl _ _).drew;generalize wr.drew=V at*
    (refine tkQ 0 f ?_;simp only[nr])
    (try simp only[nq]);clear f;refine wS1 1 (λK o=> ?_);(go_wp2_with fail);refine(ad V).mono ?_;rintro e x1 ⟨rfl,J⟩;subst J;have m:=n;refine o _ _ (Or.inr m) ?_;clear o K
    (try simp only[nr])
    have f:(λW:World=>zA (λ_=>True) wr W) V:=m
    (refine tkQ 2 f ?_;simp only[nr])
    try simp only[nq]
    (refine tkQ 3 f ?_;simp only[nr])
    try simp only[nq]
    (refine tkQ 4 f ?_;simp only[nr])
    try simp only[nq]
    (refine tkQ 5 f ?_;simp only[nr])
    try simp only[nq]
    (refine tkC 6 [7,8,14,17,27] ?_ f ?_ ?_;rotate_left;intro w g;have ba:=ak _ g;clear g;go_simp;(try with_reducible rfl);simp only[nr])
    try simp only[nq]
    (refine tkQ 7 f ?_;simp only[nr])
    try simp only[nq]
    (refine tkQ 8 f ?_;simp only[nr])
    (try simp only[nq]);refine tkN 9 f ?_;(try simp only[nq]);refine tkN 10 f ?_;(try simp only[nq]);refine tkN 11 f ?_;(try simp only[nq]);refine tkN 12 f ?_;(try simp only[nq]);refine tkN 13 f ?_;(try simp only[nq]);refine tkN 14 f ?_;(try simp only[nq]);refine tkN 15 f ?_;try simp only[nq]
    (refine tkQ 16 f ?_;simp only[nr])
    try simp only[nq]
    (refine tkQ 17 f ?_;simp only[nr])
    (try simp only[nq]);refine tkN 18 f ?_;(try simp only[nq]);refine tkN 19 f ?_;(try simp only[nq]);refine tkN 20 f ?_;(try simp only[nq]);refine tkN 21 f ?_;(try simp only[nq]);refine tkN 22 f ?_;(try simp only[nq]);refine tkN 23 f ?_;(try simp only[nq]);refine tkN 24 f ?_;(try simp only[nq]);refine tkN 25 f ?_;(try simp only[nq]);refine tkN 26 f ?_;(try simp only[nq]);clear f;refine wS1 27 (λK o=> ?_);(go_wp2_with fail);refine o _ _ (Or.inl rfl) ?_;clear o K;(try simp only[nq]);refine wSd ?_ _;have v:=hid n;clear n;(go_wp2_with fail);go_ret;exact⟨zI (ac (by rw[H.out];simp)).symm,zC A v.below⟩
   (obtain rfl:k=s.auths.length:=by omega);have HA:=hid (au bc);obtain⟨p0,N,p1,O,p2,Q,p3,R,p4,T,p5,U,pl⟩:=ah.d6;(have b8:¬0<=s.signed\/(0<=s.signed/\¬s.signed<=s.now)\/(0<=s.signed/\s.signed<=s.now):=by omega);rcases b8 with h3|⟨h3,h4⟩|⟨h3,h4⟩
   all_goals
    (go_wp2_with fail);go_ret;exact⟨zI (by rw[bs.out,HA.out];grind),q⟩
 have b4:(decide (((s.zones.length:Nat):Int)=((s.auths.length:Nat):Int))&&decide (((s.cases.length:Nat):Int)=((s.auths.length:Nat):Int)))=false:=by
  rw[Bool.and_eq_false_iff,decide_eq_false_iff_not,decide_eq_false_iff_not];omega
 rw[b4];go_wp2_with fail
 go_ret
 exact⟨zI (by
  rw[HP.out];have:(decide (s.zones.length=s.auths.length)&&decide (s.cases.length=s.auths.length))=false:=by rw[Bool.and_eq_false_iff,decide_eq_false_iff_not,decide_eq_false_iff_not];omega
  rw[Bool.and_eq_false_iff]at this
  rcases this with h|h<;>rw[h]<;>simp),y⟩
end Go.Proofs.YtommaegelgilnaaGreatDoor
