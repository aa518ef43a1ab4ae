/- Lemmas. -/
import Derived.Test.YtommaegelgilnaaGreatDoorM18
set_option linter.all false
namespace Go.Proofs.YtommaegelgilnaaGreatDoor
open Go.RowKit
set_option maxHeartbeats 4000000
set_option maxRecDepth 100000
variable {Z:zD}{v:Value}{w:World}
theorem zK.open_{c:List zB}(h:zK Z w v c):∃A cap,v= .slice A c.length cap/\c.length<=cap/\c.length<=2199023255552/\
  ∀i(hi:i<c.length),∃b a e f,A=some ⟨b,a,none⟩/\Z b/\b<w.heap.size/\w.cell? ⟨b,a+i*4,none⟩=some (.bool c[i].leaf)/\w.cell? ⟨b,a+i*4+1,none⟩=some (.int .i64 c[i].fact)/\
   w.cell? ⟨b,a+i*4+2,none⟩=some e/\w.cell? ⟨b,a+i*4+3,none⟩=some f/\I64 c[i].fact /\zO Z w e c[i].cuts /\zO Z w f c[i].kids :=by
 obtain⟨A,cap,rfl,k,s,t,m⟩:=h;refine⟨A,cap,rfl,k,by omega,λi hi=> ?_⟩;obtain⟨b,a,q,rfl,o,d,e,f,rfl,n,g,j⟩:=m.at_ hi;exact⟨b,a,e,f,rfl,o,lt_of_cell (d 0 _ rfl),d 0 _ rfl,d 1 _ rfl,d 2 _ rfl,d 3 _ rfl,n,g,j⟩
def zDn(g:List zB)(f:Int):Option Int->List Int->Bool
 | _,[]=>true
 |p,k::r=>decide (0<=k)&&decide (k<g.length)&&(match p with|none=>true|some q=>decide (q≠k))&&(decide ((nAt g k).kids =[])||decide (f<(nAt g k).fact))&&zDn g f (some k) r
theorem zKf(g:List zB)(f k:Int)(r:List Int):zEK g f (k::r)=((decide (0<=k)&&decide (k<g.length)&&(decide ((nAt g k).kids =[])||decide (f<(nAt g k).fact)))&&(match r with|[]=>true|k'::_=>decide (k≠k'))&&zEK g f r):=rfl
theorem zKg(g:List zB)(f p:Int):∀l:List Int,zDn g f (some p) l=((match l with|[]=>true|k'::_=>decide (p≠k'))&&zEK g f l)
 |[]=>by simp[zDn,zEK]
 |k::r=>by
  rw[zDn,zKg g f k r,zKf];dsimp only;generalize decide (0<=k)=a,decide (k<(g.length:Int))=b,decide (p≠k)=c,decide ((nAt g k).kids =[])=d,decide (f<(nAt g k).fact)=e
  generalize (match r with|[]=>true|k'::_=>decide (k≠k'))=x,zEK g f r=y
  cases a<;>cases b<;>cases c<;>cases d<;>cases e<;>cases x<;>rfl
theorem zQA(g:List zB)(f:Int)(l:List Int):zDn g f none l=zEK g f l:=by
 cases l with
 |nil=>rfl
 |cons k r=>
 rw[zDn,zKg g f k r,zKf];generalize decide (0<=k)=a,decide (k<(g.length:Int))=b,decide ((nAt g k).kids =[])=d,decide (f<(nAt g k).fact)=e
 generalize (match r with|[]=>true|k'::_=>decide (k≠k'))=x,zEK g f r=y
 cases a<;>cases b<;>cases d<;>cases e<;>cases x<;>rfl
theorem zQB(g:List zB)(f:Int)(p:Option Int)(k:Int)(r:List Int):zDn g f p (k::r)=(decide (0<=k)&&decide (k<g.length)&&(match p with|none=>true|some q=>decide (q≠k))&&(decide ((nAt g k).kids =[])||decide (f<(nAt g k).fact))&&zDn g f (some k) r):=rfl
def zEA(l:List Int)(k:Nat):Option Int:=if k=0 then none else some (l.getD (k-1) 0)
theorem Facts.open_{ds:List zE}(h:Facts Z w v ds):∃A cap,v= .slice A ds.length cap/\ds.length<=cap/\ds.length<=3518437208883/\
  ∀i(hi:i<ds.length),∃b a,A=some ⟨b,a,none⟩/\Z b/\b<w.heap.size/\w.cell? ⟨b,a+i*4,none⟩=some (.string ds[i].name)/\w.cell? ⟨b,a+i*4+1,none⟩=some (.int .i64 ds[i].kind)/\
   w.cell? ⟨b,a+i*4+2,none⟩=some (.int .i64 ds[i].lo)/\w.cell? ⟨b,a+i*4+3,none⟩=some (.int .i64 ds[i].hi)/\ds[i].fit :=by
 obtain⟨⟨A,cap,rfl,d,k,m,e⟩,f⟩:=h;refine⟨A,cap,rfl,d,by omega,λi hi=> ?_⟩;obtain⟨b,a,j,rfl,g,c,rfl⟩:=e.at_ hi;exact⟨b,a,rfl,g,lt_of_cell (c 0 _ rfl),c 0 _ rfl,c 1 _ rfl,c 2 _ rfl,c 3 _ rfl,f _ (List.getElem_mem hi)⟩
theorem Blk.new'(w:World)(t:TypeId)(cs:Array Value){n:Nat}(h:n=w.heap.size):Blk (w.alloc (.cells cs t)) n t cs:=by subst h;exact Blk.new w t cs
theorem zNc{ds:List zE}{g:List zB}{n:zB}(h:n.kids=[]):zAc ds g n=(decide (n.fact=0)&&decide (n.cuts=[])):=if_pos h
theorem zQC{ds:List zE}{g:List zB}{n:zB}(h:n.kids≠[]):zAc ds g n=(!n.leaf&&decide (0<=n.fact)&&decide (n.fact<ds.length)&&decide (n.cuts≠[])&&decide (n.kids.length=n.cuts.length+1)&&zFv (fAt ds n.fact).lo (fAt ds n.fact).hi n.cuts&&zEK g n.fact n.kids):=if_neg h
theorem zSg(l:List Int):((l.length:Int)==0)=decide (l=[]):=by
 cases l with
 |nil=>rfl
 |cons a r=>simp;omega
theorem zQD(Z:zD)(vg vd:Value)(g:List zB)(ds:List zE)(n:zB)(cs:List Value)(w:World)(hg:zK Z w vg g)(hn:zAY Z w cs n)(hd:Facts Z w vd ds):
  Calls Tryz.prog 127 #[.agg #[vg],.agg cs.toArray,.agg #[vd]] w λe w'=>e= .returned (.bool (zAc ds g n))/\Bw w w':=by
 obtain⟨G,v,rfl,bs,bt,ae⟩:=hg.open_;obtain⟨D,u,rfl,bq,br,ad⟩:=hd.open_;obtain⟨vc,vk,rfl,hf,ay,bb⟩:=hn;have HG:=hid ae;have HD:=hid ad;have bg:=hid ay;have au:=hid bb;obtain⟨⟨C,z,rfl,bn,-,bo,-⟩,-⟩:=ay;obtain⟨⟨K,y,rfl,bv,-,bw,-⟩,-⟩:=bb;have ak:=hid (@zNc ds g n);have aj:=hid (@zQC ds g n);have bf:=hid (zSg n.cuts);have ac:=((zG w (.cells #[.slice G g.length v] 74)).alloc (by simp) (.cells #[.bool n.leaf,.int .i64 n.fact,.slice C n.cuts.length z,.slice K n.kids.length y] 123)).alloc (by simp;omega) (.cells #[.slice D ds.length u] 25);have t:=hid ac;clear ae ad hg hd ac;obtain⟨nl,R,f,b⟩:=n;simp only at*;go_enter Tryz.func127,Tryz.ntmps127
 by_cases I:b=[]
 ·have s:=hid (ak I);have e1:((b.length:Int)==0)=true:=by simp[I]
  clear I aj ak;by_cases N:R=0
  ·(have e2:(R==(0:Int))=true:=by simp[N]);rw[decide_eq_true N]at s;clear N;go_wp2;go_ret;rw[s.out,<-bf.out];exact⟨rfl,t⟩
  have e2:(R==(0:Int))=false:=by simp[N]
  rw[decide_eq_false N]at s;clear N;go_wp2;go_ret;rw[s.out];exact⟨rfl,t⟩
 have s:=hid (aj I);have e1:((b.length:Int)==0)=false:=by simp[I]
 clear I aj ak
 cases nl with
 |true=>
  simp only[Bool.not_true,Bool.false_and]at s;go_wp2;go_ret;rw[s.out];exact⟨rfl,t⟩
 |false=>
 simp only[Bool.not_false,Bool.true_and]at s;by_cases Q:R<0
 ·rw[decide_eq_false (by omega)]at s;simp only[Bool.false_and]at s;have e2:decide (R<0)=true:=by simpa using Q
  clear Q;go_wp2;go_ret;rw[s.out];exact⟨rfl,t⟩
 rw[decide_eq_true (show 0<=R by omega)]at s;simp only[Bool.true_and]at s;have e2:decide (R<0)=false:=by simpa using Q
 by_cases h3:(ds.length:Int)<=R
 ·rw[decide_eq_false (by omega)]at s;simp only[Bool.false_and]at s;have e3:decide ((ds.length:Int)<=R)=true:=by simpa using h3
  clear Q h3;go_wp2;go_ret;rw[s.out];exact⟨rfl,t⟩
 rw[decide_eq_true (show R<(ds.length:Int) by omega)]at s;simp only[Bool.true_and]at s;have e3:decide ((ds.length:Int)<=R)=false:=by simpa using h3
 by_cases h4:f=[]
 ·have e4:((f.length:Int)==0)=true:=by simp[h4]
  rw[decide_eq_false (by simp[h4])]at s;simp only[Bool.false_and]at s;clear Q h3 h4;go_wp2;go_ret;rw[s.out];exact⟨rfl,t⟩
 have e4:((f.length:Int)==0)=false:=by simp[h4]
 rw[decide_eq_true h4]at s;simp only[Bool.true_and]at s;by_cases h5:b.length=f.length+1
 ·have e5:((b.length:Int)!=(f.length:Int)+1)=false:=by simp;omega
  rw[decide_eq_true h5]at s;simp only[Bool.true_and]at s;obtain⟨d,rfl⟩:=Int.eq_ofNat_of_zero_le (show 0<=R by omega);have a5:d<ds.length:=by omega
  have a4:fAt ds (d:Int)=ds[d]:=by unfold fAt;simp[List.getD_eq_getElem?_getD,a5]
  rw[a4]at s;obtain⟨db,A,rfl,-,bp,-,-,d2,d3,a1⟩:=HD d a5;have bi:=hid a1;have bh:=hid (And.intro d2 d3);have b7:((d:Nat):Int)<(ds.length:Int):=by omega
  have cg:decide (ds.length<=d)=false:=by simp;omega
  have az:db<w.heap.size+1:=by omega
  have a0:db<w.heap.size+1+1:=by omega
  have b6:(0:Int)<=((d:Nat):Int):=by omega
  clear Q h3 h4 h5 a4 a1;generalize ds[d]=H at*;go_wp2;have g0:=(((Blk.new w 74 #[.slice G g.length v]).alloc (.cells #[.bool false,.int .i64 (d:Int),.slice C f.length z,.slice K b.length y] 123)).alloc (.cells #[.slice (some ⟨db,A,none⟩) ds.length u] 25)).cell 0;have n1:=((Blk.new' (w.alloc (.cells #[.slice G g.length v] 74)) 123 #[.bool false,.int .i64 (d:Int),.slice C f.length z,.slice K b.length y] (n:=w.heap.size+1) (by simp)).alloc (.cells #[.slice (some ⟨db,A,none⟩) ds.length u] 25)).cell 1;have n3:=((Blk.new' (w.alloc (.cells #[.slice G g.length v] 74)) 123 #[.bool false,.int .i64 (d:Int),.slice C f.length z,.slice K b.length y] (n:=w.heap.size+1) (by simp)).alloc (.cells #[.slice (some ⟨db,A,none⟩) ds.length u] 25)).cell 3;have q0:=(Blk.new' ((w.alloc (.cells #[.slice G g.length v] 74)).alloc (.cells #[.bool false,.int .i64 (d:Int),.slice C f.length z,.slice K b.length y] 123)) 25 #[.slice (some ⟨db,A,none⟩) ds.length u] (n:=w.heap.size+1+1) (by simp)).cell 0;have ai:=t.out;generalize (((w.alloc _).alloc _).alloc _)=W0 at*;replace g0:W0.cell? ⟨w.heap.size,0,none⟩=some (.slice G g.length v):=g0;replace n1:W0.cell? ⟨w.heap.size+1,1,none⟩=some (.int .i64 (d:Int)):=n1;replace n3:W0.cell? ⟨w.heap.size+1,3,none⟩=some (.slice K b.length y):=n3;replace q0:W0.cell? ⟨w.heap.size+1+1,0,none⟩=some (.slice (some ⟨db,A,none⟩) ds.length u):=q0;have a2:=brd ai d3 bp;have a3:=lt_of_cell a2;have b2:=lt_of_cell q0;have bd:=lt_of_cell n1;have bm:=lt_of_cell g0;have E:=hid (And.intro g0 (And.intro n1 (And.intro n3 ai)));clear d2 d3 bh t ai az a0 g0 n3 HD;have bx:=bi.2.2.1;go_loopw[7,66] (λl i wr=>∃(k:Nat)(x:Int),k<=f.length/\i= .int .i64 k/\l= .int .i64 x/\W0=wr/\Hid (zFv H.lo H.hi f=zFv x H.hi (f.drop k))) (λ_ i _=>f.length-(intOf i).toNat);case atStart=>exact⟨0,H.lo,Nat.zero_le _,rfl,rfl,rfl,rfl⟩
  case round=>
   obtain⟨k,x,hk,rfl,rfl,rfl,q⟩:=hrel;by_cases O:k<f.length
   ·obtain⟨cb,b3,rfl,-,av,aw⟩:=bg.at_ O;have ax:=brd E.2.2.2 aw av;have b5:=lt_of_cell ax;(have bu:((k:Nat):Int)<(f.length:Int):=by omega);have U:f.drop k=f[k]::f.drop (k+1):=List.drop_eq_getElem_cons O;rw[U]at q;generalize f[k]=c at*;have V:zFv H.lo H.hi f=(decide (x<c)&&decide (c<=H.hi)&&zFv c H.hi (f.drop (k+1))):=q.out;have a:=hid V;clear aw av U q V;by_cases h1:c<=x
    ·(have e6:decide (c<=x)=true:=by simpa using h1);have T:=hid (show zAc ds g ⟨false,(d:Int),f,b⟩=false from by rw[s.out,a.out,decide_eq_false (show ¬x<c by omega)];simp);clear h1;go_wp2;go_ret;rw[T.out];exact⟨rfl,E.2.2.2⟩
    (have e6:decide (c<=x)=false:=by simpa using h1);by_cases Q:H.hi<c
    ·(have e7:decide (H.hi<c)=true:=by simpa using Q);have T:=hid (show zAc ds g ⟨false,(d:Int),f,b⟩=false from by rw[s.out,a.out,decide_eq_false (show ¬c<=H.hi by omega)];simp);clear h1 Q;go_wp2;go_ret;rw[T.out];exact⟨rfl,E.2.2.2⟩
    (have e7:decide (H.hi<c)=false:=by simpa using Q);have T:=hid (show zFv H.lo H.hi f=zFv c H.hi (f.drop (k+1)) from by rw[a.out,decide_eq_true (show x<c by omega),decide_eq_true (show c<=H.hi by omega)];simp);clear h1 Q;go_wp2;go_roundw;(case rel=>exact⟨k+1,c,by omega,by go_num,rfl,trivial,T⟩);case measure=>simp[intOf];omega
   obtain rfl:k=f.length:=by omega
   have bj:=hid (show zAc ds g ⟨false,(d:Int),f,b⟩=zDn g (d:Int) (zEA b 0) (b.drop 0) from by
    rw[s.out,q.out,List.drop_length];show(true&&_)=_;rw[Bool.true_and,<-zQA];rfl)
   clear q s a2 a3 q0 b2 bx;have n3:=E.2.2.1;go_wp2;go_loopw[89] (λi wr=>∃k:Nat,k<=b.length/\i= .int .i64 k/\Bw W0 wr/\Hid (zAc ds g ⟨false,(d:Int),f,b⟩=zDn g (d:Int) (zEA b k) (b.drop k))) (λi _=>b.length-(intOf i).toNat);case atStart=>exact⟨0,Nat.zero_le _,rfl,Below.refl _ _,bj⟩
   case round=>
    obtain⟨J,cl,rfl,M,q⟩:=hrel;have aa:Bw w wr:=E.2.2.2.trans (M.mono E.2.2.2.size);have Y:=hid aa;by_cases O:J<b.length
    ·obtain⟨kb,cd,rfl,-,a9,ba⟩:=au.at_ O;have ah:=brd aa ba a9;have b9:=lt_of_cell ah;(have bu:((J:Nat):Int)<(b.length:Int):=by omega);(have I:(0:Int)<=((J:Nat):Int):=by omega);have g0:=brd M E.1 bm;have n1:=brd M E.2.1 bd;have n3:=brd M E.2.2.1 bd;have ci:=lt_of_cell g0;have co:=lt_of_cell n1;(have a6:b.getD J 0=b[J]:=by simp[List.getD_eq_getElem?_getD,O]);have U:b.drop J=b[J]::b.drop (J+1):=List.drop_eq_getElem_cons O;rw[U]at q;have X:=hid (show zEA b (J+1)=some b[J] from by unfold zEA;rw[if_neg (by omega),Nat.add_sub_cancel,a6]);have al:=hid (λj(hj:j<b.length)=>au.at_ hj);generalize b[J]=x at*;have a:=hid (q.trans (zQB g (d:Int) (zEA b J) x (b.drop (J+1))));have B:=hid (And.intro (λn=>(below_drewN' M n:Bw W0 (wr.drewN n))) (λn=>(below_drewN' aa n:Bw w (wr.drewN n))));clear a6 U q ba a9 M aa;by_cases W:x<0
     ·(have e6:decide (x<0)=true:=by simpa using W);have h:=hid (show zAc ds g ⟨false,(d:Int),f,b⟩=false from by rw[a.out,decide_eq_false (show ¬0<=x by omega)];simp);clear W;go_wp2;go_quiet(fail);go_wp2;go_ret;rw[h.out];exact⟨rfl,B.2 _⟩
     (have e6:decide (x<0)=false:=by simpa using W);by_cases ab:(g.length:Int)<=x
     ·(have e7:decide ((g.length:Int)<=x)=true:=by simpa using ab);have h:=hid (show zAc ds g ⟨false,(d:Int),f,b⟩=false from by rw[a.out,decide_eq_false (show ¬x<(g.length:Int) by omega)];simp);clear W ab;go_wp2;go_quiet(fail);go_wp2;go_ret;rw[h.out];exact⟨rfl,B.2 _⟩
     (have e7:decide ((g.length:Int)<=x)=false:=by simpa using ab);rw[decide_eq_true (show 0<=x by omega),decide_eq_true (show x<(g.length:Int) by omega)]at a;obtain⟨L,rfl⟩:=Int.eq_ofNat_of_zero_le (show 0<=x by omega);(have ar:L<g.length:=by omega);(have ch:decide (g.length<=L)=false:=by simp;omega);obtain⟨gb,b4,cp,cq,rfl,-,ap,-,m1,-,m3,-,-,bz⟩:=HG L ar;replace m1:=brd Y m1 ap;replace m3:=brd Y m3 ap;have b8:=lt_of_cell m1;(have cc:((L:Nat):Int)<(g.length:Int):=by omega);(have ca:(0:Int)<=((L:Nat):Int):=by omega);obtain⟨⟨MK,ce,rfl,-,-,b0,-⟩,-⟩:=bz;have bc:nAt g ((L:Nat):Int)=g[L]:=zCB ar;rw[bc]at a;have cf:=hid (show decide (0<g[L].kids.length)= !decide (g[L].kids =[]) from by cases g[L].kids <;>simp);generalize g[L]=m at*;clear bc ap W ab ar
     cases J with
     |zero=>
      rw[Nat.add_zero]at ah;rw[show zEA b 0=none from rfl]at a;simp only[Bool.true_and]at a;by_cases o:m.kids=[]
      ·(have e8:decide ((0:Int)<(m.kids.length:Int))=false:=by simp[o]);(have ao:decide (0<m.kids.length)=false:=by simp[o]);rw[decide_eq_true o]at a;have h:=hid (show zAc ds g ⟨false,(d:Int),f,b⟩=zDn g (d:Int) (zEA b (0+1)) (b.drop (0+1)) from by rw[X.out];simpa using a.out);clear o;go_wp2;go_quiet(fail);go_wp2;go_roundw;(case rel=>exact⟨0+1,by omega,by go_num,B.1 _,h⟩);case measure=>simp[intOf];omega
      (have e8:decide ((0:Int)<(m.kids.length:Int))=true:=by simp;exact List.length_pos_iff.2 o);(have ao:decide (0<m.kids.length)=true:=by simp;exact List.length_pos_iff.2 o);rw[decide_eq_false o]at a;by_cases F:m.fact<=(d:Int)
      ·(have e9:decide (m.fact<=(d:Int))=true:=by simpa using F);have h:=hid (show zAc ds g ⟨false,(d:Int),f,b⟩=false from by rw[a.out,decide_eq_false (show ¬(d:Int)<m.fact by omega)];simp);clear o F;go_wp2;go_quiet(fail);go_wp2;go_ret;rw[h.out];exact⟨rfl,B.2 _⟩
      (have e9:decide (m.fact<=(d:Int))=false:=by simpa using F);have h:=hid (show zAc ds g ⟨false,(d:Int),f,b⟩=zDn g (d:Int) (zEA b (0+1)) (b.drop (0+1)) from by rw[X.out,a.out,decide_eq_true (show(d:Int)<m.fact by omega)];simp);clear o F;go_wp2;go_quiet(fail);go_wp2;go_roundw;(case rel=>exact⟨0+1,by omega,by go_num,B.1 _,h⟩);case measure=>simp[intOf];omega
     |succ j=>
     rw[show zEA b (j+1)=some (b.getD j 0) from rfl]at a;(have a7:j<b.length:=by omega);obtain⟨cn,b1,aq,-,af,ag⟩:=al j a7;injection aq with aq;injection aq with hke1 hke2;subst hke1 hke2;have cm:=brd Y ag af;(have a8:b.getD j 0=b[j]:=by simp[List.getD_eq_getElem?_getD,a7]);rw[a8]at a;simp only[Bool.true_and]at a;generalize b[j]=pv at*;(have ck:((j:Nat):Int)<(b.length:Int):=by omega);(have cj:(0:Int)<=((j:Nat):Int):=by omega);(have e5:decide (0<j+1)=true:=by simp);clear af ag a8;by_cases P:pv=(L:Int)
     ·(have bk:(pv==(L:Int))=true:=by simp[P]);have h:=hid (show zAc ds g ⟨false,(d:Int),f,b⟩=false from by rw[a.out,decide_eq_false (show ¬pv≠(L:Int) by simp[P])];simp);clear P;go_wp2;go_quiet(fail);go_wp2;go_ret;rw[h.out];exact⟨rfl,B.2 _⟩
     (have bk:(pv==(L:Int))=false:=by simp[P]);rw[decide_eq_true P]at a;simp only[Bool.true_and]at a;clear P;by_cases o:m.kids=[]
     ·(have e8:decide ((0:Int)<(m.kids.length:Int))=false:=by simp[o]);(have ao:decide (0<m.kids.length)=false:=by simp[o]);rw[decide_eq_true o]at a;have h:=hid (show zAc ds g ⟨false,(d:Int),f,b⟩=zDn g (d:Int) (zEA b ((j+1)+1)) (b.drop ((j+1)+1)) from by rw[X.out];simpa using a.out);clear o;go_wp2;go_quiet(fail);go_wp2;go_roundw;(case rel=>exact⟨(j+1)+1,by omega,by go_num,B.1 _,h⟩);case measure=>simp[intOf];omega
     (have e8:decide ((0:Int)<(m.kids.length:Int))=true:=by simp;exact List.length_pos_iff.2 o);(have ao:decide (0<m.kids.length)=true:=by simp;exact List.length_pos_iff.2 o);rw[decide_eq_false o]at a;by_cases F:m.fact<=(d:Int)
     ·(have e9:decide (m.fact<=(d:Int))=true:=by simpa using F);have h:=hid (show zAc ds g ⟨false,(d:Int),f,b⟩=false from by rw[a.out,decide_eq_false (show ¬(d:Int)<m.fact by omega)];simp);clear o F;go_wp2;go_quiet(fail);go_wp2;go_ret;rw[h.out];exact⟨rfl,B.2 _⟩
     (have e9:decide (m.fact<=(d:Int))=false:=by simpa using F);have h:=hid (show zAc ds g ⟨false,(d:Int),f,b⟩=zDn g (d:Int) (zEA b ((j+1)+1)) (b.drop ((j+1)+1)) from by rw[X.out,a.out,decide_eq_true (show(d:Int)<m.fact by omega)];simp);clear o F;go_wp2;go_quiet(fail);go_wp2;go_roundw;(case rel=>exact⟨(j+1)+1,by omega,by go_num,B.1 _,h⟩);case measure=>simp[intOf];omega
    (obtain rfl:J=b.length:=by omega);have h:=hid (show zAc ds g ⟨false,(d:Int),f,b⟩=true from by rw[q.out,List.drop_length];rfl);clear q;go_wp2;go_ret;rw[h.out];exact⟨rfl,Y⟩
 have e5:((b.length:Int)!=(f.length:Int)+1)=true:=by simp;omega
 rw[decide_eq_false h5]at s;simp only[Bool.false_and]at s;clear Q h3 h4 h5;go_wp2;go_ret;rw[s.out];exact⟨rfl,t⟩
end Go.Proofs.YtommaegelgilnaaGreatDoor
