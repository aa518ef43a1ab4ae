/- Texts TF TH TF2. -/
import Derived.Test.YthpocbeoanipbaaGreatDoorM20
import Derived.Deep.CutRange
set_option linter.all false
namespace Go.Proofs.YthpocbeoanipbaaGreatDoor
open Go.RowKit Go.Proofs.Tryz
set_option maxHeartbeats 4000000
set_option maxRecDepth 100000
variable{P:Nat}{e:Ending}{f:Flt}{fin:Int}{s:ByteArray}{st:PSt}{v:Value}{w w':World}
theorem flat_get{α:Type}{f:α->List Value}{n:Nat}(a:∀x,(f x).length =n):∀(l:List α)(k:Nat)(b:k<l.length)(j:Nat),j<n->(l.flatMap f)[k*n+j]? =(f l[k])[j]?
 |x::r,0,_,j,hj=>by
  rw[List.flatMap_cons,Nat.zero_mul,Nat.zero_add,List.getElem?_append_left (by rw[a];exact hj)];rfl
 |x::r,k+1,b,j,hj=>by
  rw[List.flatMap_cons,List.getElem?_append_right (by rw[a,Nat.add_mul];omega),a,show(k+1)*n+j-n=k*n+j from by rw[Nat.add_mul];omega,flat_get a r k (by simpa using b) j hj];rfl
theorem zON{a b:ByteArray}:a.toList=b.toList↔a=b:=by
 have:=zAh a b;rw[Bool.eq_iff_iff,beq_iff_eq,decide_eq_true_eq]at this;exact this
theorem zGA:za.toList=[]:=by rw[ByteArray.toList_eq];rfl
structure zAt (Z:zE) (w:World) (A:Option Addr) (cap:Nat) (ts:List Tok):Prop where
 row:Row Z w A (ts.flatMap Tok.cells)
 le:ts.length<=cap
 max:cap<=9223372036854775807
 few:ts.length<=5000
section
variable {Z Z':zE} {w w':World} {A:Option Addr} {cap:Nat} {ts:List Tok}
theorem zAt.keep(h:zAt Z w A cap ts)(a:zA Z w w'):zAt Z w' A cap ts:=⟨h.row.keep a,h.le,h.max,h.few⟩
theorem zAt.mono(h:zAt Z w A cap ts)(a:∀b,Z b->Z' b):zAt Z' w A cap ts:=⟨h.row.mono a,h.le,h.max,h.few⟩
theorem zAt.at_(h:zAt Z w A cap ts){k:Nat}(d:k<ts.length):∃b off,A=some ⟨b,off,none⟩/\Z b/\w.cell? ⟨b,off+k*4,none⟩=some (.int .i64 ts[k].kind)/\w.cell? ⟨b,off+k*4+1,none⟩=some (.int .i64 ts[k].pos)/\
  w.cell? ⟨b,off+k*4+2,none⟩=some (.int .i64 ts[k].num)/\w.cell? ⟨b,off+k*4+3,none⟩=some (.string ts[k].text):=by
 have a:=flat_get (f:=Tok.cells) (n:=4) (λ_=>rfl) ts k d;obtain⟨b,off,e,g,c⟩:=h.row (λe=>by have:=a 0 (by omega);rw[e]at this;simp[Tok.cells]at this);refine⟨b,off,e,g,?_,?_,?_,?_⟩
 ·have:=c (k*4+0) _ ((a 0 (by omega)).trans rfl);simpa using this
 ·have:=c (k*4+1) _ ((a 1 (by omega)).trans rfl);rwa[<-Nat.add_assoc]at this
 ·have:=c (k*4+2) _ ((a 2 (by omega)).trans rfl);rwa[<-Nat.add_assoc]at this
 ·have:=c (k*4+3) _ ((a 3 (by omega)).trans rfl);rwa[<-Nat.add_assoc]at this
theorem zAt.of_own{base:Nat}(h:w.ownsRow base 102 4 v (zJ s).1.length ((zJ s).1.flatMap Tok.cells)):∃A cap,v= .slice A (zJ s).1.length cap/\zAt (λb=>base<=b) w A cap (zJ s).1:=by
 obtain⟨A,cap,e,a,c,d⟩:=Row.of_own h (by decide);exact⟨A,cap,e,d,a,c,zOk s⟩
end
def zB1(T:TypeId)(f:Flt):Value:= .iface T (.agg #[.int .i64 f.1,.int .i64 f.2])
def zMO(T:TypeId)(f:Flt)(e:Ending):Prop:=e= .panicked [{v:=zB1 T f,recovered:=false}]
def RdF(w:World)(R:Nat)(A:Option Addr)(cap:Nat)(ts:List Tok)(k:Nat)(fin:Int):Prop:=Blk w R 153 #[.slice A ts.length cap,.int .i64 (k:Int),.int .i64 fin]
def zDt{α:Type}(R:Nat)(A:Option Addr)(cap:Nat)(ts:List Tok)(fin:Int)(enc:α->Value)(w:World)(res:Except Flt (α × List Tok))(e:Ending)(w':World):Prop:=
 zA (λc=>c≠R) w w'/\match res with
 | .error f=>zMO 198 f e
 | .ok (x,r)=>e= .returned (enc x)/\∃k',r=ts.drop k'/\k'<=ts.length/\RdF w' R A cap ts k' fin
def zAS(t:Tok):Value:= .agg (Tok.cells t).toArray
theorem zN8(R:Nat)(A:Option Addr)(s:Nat)(f:List Tok)(fin:Int)(k:Nat)(e:Int)(u:ByteArray)(w:World)(hR:RdF w R A s f k fin)(X:zAt (λc=>c≠R) w A s f)(hk:k<=f.length):
  Calls prog 84 #[.pointer (some ⟨R,0,none⟩),.int .i64 e,.string u] w (zDt R A s f fin zAS w (zB7 fin e u (f.drop k))):=by
 have m:Blk w R 153 #[.slice A f.length s,.int .i64 (k:Int),.int .i64 fin]:=hR;have r0:w.cell? ⟨R,0,none⟩=some (.slice A f.length s):=m.at0;have r1:w.cell? ⟨R,1,none⟩=some (.int .i64 (k:Int)):=m.at1;have r2:w.cell? ⟨R,2,none⟩=some (.int .i64 fin):=m.at2;have rl:=m.lt;have O:=hid m;have af:=X.few;have le:=X.le;have ag:=X.max;by_cases he:k=f.length
 ·have E:=hid (show zB7 fin e u (f.drop k)= .error (6,fin) from by rw[he,List.drop_length];rfl);have e1:((k:Int)==(f.length:Int))=true:=by simp[he]
  clear X m hR he;go_enter func84,ntmps84
  go_wp2;go_quiet(fail);go_wp2;refine⟨rfl,?_⟩;unfold zDt;rw[E.out];exact⟨zA.of_below (below_drewN' (zF _ _) _),rfl⟩
 ·have aa:k<f.length:=by omega
  obtain⟨b,C,rfl,hz,P,c1,c2,c3⟩:=X.at_ aa;have E:=hid (show zB7 fin e u (f.drop k)=(if f[k].kind ≠e\/(u≠za/\f[k].text ≠u)then .error (5,f[k].pos)else .ok (f[k],f.drop (k+1))) from by rw[List.drop_eq_getElem_cons aa];rfl);have e1:((k:Int)==(f.length:Int))=false:=by simp;omega
  have B:=lt_of_cell P;have q0:¬((k:Int)<0):=by omega
  have q1:(k:Int)<(f.length:Int):=by omega
  generalize ad:f[k]=t at*;obtain⟨x,L,J,D⟩:=t;dsimp only at*;clear X m hR he ad;go_enter func84,ntmps84
  go_wp2;go_quiet(fail);go_upto_region 3 with fail
  have q:=hid (below_drewN' (zF w (.cells #[.int .i64 0,.int .i64 0,.int .i64 0,.string ⟨#[]⟩] 102)) nq);have N:=hid (show Blk ((w.alloc (.cells #[.int .i64 0,.int .i64 0,.int .i64 0,.string ⟨#[]⟩] 102)).drewN nq) w.heap.size 102 #[.int .i64 0,.int .i64 0,.int .i64 0,.string ⟨#[]⟩] from(Blk.new w _ _).drewN nq);generalize (w.alloc (.cells #[.int .i64 0,.int .i64 0,.int .i64 0,.string ⟨#[]⟩] 102)).drewN nq=o at*
  have HC:=hid (λ(W:World)(hW:zA (λ_=>True) o W)=>(show W.cell? ⟨R,0,none⟩=some (.slice (some ⟨b,C,none⟩) f.length s)/\W.cell? ⟨R,1,none⟩=some (.int .i64 (k:Int))/\R<W.heap.size/\
    W.cell? ⟨b,C+k*4,none⟩=some (.int .i64 x)/\W.cell? ⟨b,C+k*4+1,none⟩=some (.int .i64 L)/\W.cell? ⟨b,C+k*4+2,none⟩=some (.int .i64 J)/\W.cell? ⟨b,C+k*4+3,none⟩=some (.string D)/\b<W.heap.size from by
   have n:=q.out.trans (hW.below.mono q.out.size);have h:=O.out.below n rl
   exact⟨h.at0,h.at1,h.lt,brd n P B,brd n c1 B,brd n c2 B,brd n c3 B,Nat.lt_of_lt_of_le B n.size⟩))
  clear r0 r1 r2 P c1 c2 c3;go_cut[7] from 24 to 34 (λvp wx=>∃I,vp= .pointer (some ⟨I,0,none⟩)/\Blk wx I 102 #[.int .i64 x,.int .i64 L,.int .i64 J,.string D]/\o.heap.size<=I/\zA (λ_=>True) o wx)
  case first=>
   refine zL 11 (λW=>zA (λ_=>True) o W) (by kernel_rfl) ?_;have g:zA (λ_=>True) o o.drew:=(zA.refl _ _).drew;have z:(λW=>zA (λ_=>True) o W) o.drew:=g;generalize o.drew=M at*
   (refine tkQ 0 z ?_;simp only[nr])
   (refine tkQ 1 z ?_;simp only[nr])
   (refine tkQ 2 z ?_;simp only[nr])
   (refine tkS 3 ?_ z ?_ ?_;rotate_left;intro w i;obtain⟨r0,r1,rl,P,c1,c2,c3,bl⟩:=HC.out _ i;clear i;go_simp;(try with_reducible rfl);simp only[nr])
   (refine tkQ 4 z ?_;simp only[nr])
   (refine tkQ 5 z ?_;simp only[nr])
   (refine tkQ 6 z ?_;simp only[nr])
   (refine tkS 7 ?_ z ?_ ?_;rotate_left;intro w i;obtain⟨r0,r1,rl,P,c1,c2,c3,bl⟩:=HC.out _ i;clear i;go_simp;(try with_reducible rfl);simp only[nr])
   (refine tkQ 8 z ?_;simp only[nr])
   (refine tkS 9 ?_ z ?_ ?_;rotate_left;intro w i;obtain⟨r0,r1,rl,P,c1,c2,c3,bl⟩:=HC.out _ i;clear i;go_simp;(try with_reducible rfl);simp only[nr])
   clear z;refine wS1 10 (λK Z=> ?_);(go_wp2_with fail);refine Z _ _ (Or.inr (g.alloc _)) ?_;clear Z K
   (try simp only[nr])
   have ac:zA (λ_=>True) o (M.alloc (.cells #[.int .i64 0,.int .i64 0,.int .i64 0,.string ⟨#[]⟩] 102)):=g.alloc _;have d:=Blk.new M 102 #[.int .i64 0,.int .i64 0,.int .i64 0,.string ⟨#[]⟩];generalize M.alloc (.cells #[.int .i64 0,.int .i64 0,.int .i64 0,.string ⟨#[]⟩] 102)=x1 at*;refine wS1 11 (λK Z=> ?_);have P:=d.at0;have g0:=d.frozen 0;have c1:=d.at1;have g1:=d.frozen 1;have c2:=d.at2;have g2:=d.frozen 2;have c3:=d.at3;have g3:=d.frozen 3;have cl:=d.lt;have ab:=hid d;clear d;(go_wp2_with fail);refine Z _ _ (Or.inl rfl) ?_;clear Z K
   (try simp only[nr])
   refine wSd ?_ _;(go_wp2_with fail);go_meet;exact⟨M.heap.size,rfl,((((ab.out.set_ 0 _).set_ 1 _).set_ 2 _).set_ 3 _),g.size,((((ac.setCell (λ(h:M.heap.size<o.heap.size)=>absurd g.size (Nat.not_le_of_lt h)) _).setCell (λ(h:M.heap.size<o.heap.size)=>absurd g.size (Nat.not_le_of_lt h)) _).setCell (λ(h:M.heap.size<o.heap.size)=>absurd g.size (Nat.not_le_of_lt h)) _).setCell (λ(h:M.heap.size<o.heap.size)=>absurd g.size (Nat.not_le_of_lt h)) _)⟩
  case rest=>
   obtain⟨I,rfl,Y,ae,n⟩:=hcut;have U:Bw w _:=q.out.trans (n.below.mono q.out.size);have y:=O.out.below U rl;have a:=N.out.keep n trivial;have t0:=Y.at0;have t1:=Y.at1;have t2:=Y.at2;have t3:=Y.at3;have xl:=Y.lt;have r1:=y.at1;have al:=y.lt;have rf:=y.frozen 1;have ah:=a.frozen 0;have ai:=a.frozen 1;have aj:=a.frozen 2;have ak:=a.frozen 3;have o0:=a.at0;have o1:=a.at1;have o2:=a.at2;have o3:=a.at3;have ol:=a.lt;(have n1:¬I=R:=by have:=q.out.size;omega);(have G:¬R=w.heap.size:=by omega);(have n3:¬I=w.heap.size:=by have:=N.out.lt;omega);(have n4:¬R=I:=λh=>n1 h.symm);(have n5:¬w.heap.size=R:=λh=>G h.symm);(have n6:¬w.heap.size=I:=λh=>n3 h.symm);have H:=hid (And.intro U (And.intro y a));clear n ae Y U y a HC q O N;(rename World=>w3);by_cases h1:x=e
   ·subst h1;(have e2:(x !=x)=false:=by simp);by_cases Q:u=za
    ·have j:=hid (E.out.trans (if_neg (by simp[Q])));(have e3:u.toList=[]:=by rw[Q];exact zGA);clear E Q;go_wp2;have F:=((((H.out.2.2.far (p:=⟨R,1,none⟩) n5 (.int .i64 ((k:Int)+1))).set_ 0 (.int .i64 x)).set_ 1 (.int .i64 L)).set_ 2 (.int .i64 J)).set_ 3 (.string D);have q0:=F.at0;have q1:=F.at1;have q2:=F.at2;have q3:=F.at3;refine bodyPost_ret (v:=zAS ⟨x,L,J,D⟩) (by simp[results,results84,go_sem,q0,q1,q2,q3,zAS,Tok.cells]) rfl ?_;have n:=H.out.1;unfold zDt;rw[j.out];refine⟨(((((zA.of_below n).setCell (p:=⟨R,1,none⟩) (λ_ h=>h rfl) _).setCell (p:=⟨w.heap.size,0,none⟩) (λh=>absurd h (Nat.lt_irrefl _)) _).setCell (p:=⟨w.heap.size,1,none⟩) (λh=>absurd h (Nat.lt_irrefl _)) _).setCell (p:=⟨w.heap.size,2,none⟩) (λh=>absurd h (Nat.lt_irrefl _)) _).setCell (p:=⟨w.heap.size,3,none⟩) (λh=>absurd h (Nat.lt_irrefl _)) _,rfl,k+1,rfl,by omega,?_⟩;have T:=((((H.out.2.1.set_ 1 (.int .i64 ((k:Int)+1))).far (p:=⟨w.heap.size,0,none⟩) G (.int .i64 x)).far (p:=⟨w.heap.size,1,none⟩) G (.int .i64 L)).far (p:=⟨w.heap.size,2,none⟩) G (.int .i64 J)).far (p:=⟨w.heap.size,3,none⟩) G (.string D);exact T
    ·(have e3:¬u.toList=[]:=λh=>Q (by rw[<-zON,h];exact zGA.symm));(have e4:u.toList.isEmpty=false:=by simp[e3]);by_cases V:D=u
     ·have j:=hid (E.out.trans (if_neg (by simp[V])));(have e5:(D.toList==u.toList)=true:=by simp[V]);clear E Q V;go_wp2;have F:=((((H.out.2.2.far (p:=⟨R,1,none⟩) n5 (.int .i64 ((k:Int)+1))).set_ 0 (.int .i64 x)).set_ 1 (.int .i64 L)).set_ 2 (.int .i64 J)).set_ 3 (.string D);have q0:=F.at0;have q1:=F.at1;have q2:=F.at2;have q3:=F.at3;refine bodyPost_ret (v:=zAS ⟨x,L,J,D⟩) (by simp[results,results84,go_sem,q0,q1,q2,q3,zAS,Tok.cells]) rfl ?_;have n:=H.out.1;unfold zDt;rw[j.out];refine⟨(((((zA.of_below n).setCell (p:=⟨R,1,none⟩) (λ_ h=>h rfl) _).setCell (p:=⟨w.heap.size,0,none⟩) (λh=>absurd h (Nat.lt_irrefl _)) _).setCell (p:=⟨w.heap.size,1,none⟩) (λh=>absurd h (Nat.lt_irrefl _)) _).setCell (p:=⟨w.heap.size,2,none⟩) (λh=>absurd h (Nat.lt_irrefl _)) _).setCell (p:=⟨w.heap.size,3,none⟩) (λh=>absurd h (Nat.lt_irrefl _)) _,rfl,k+1,rfl,by omega,?_⟩;have T:=((((H.out.2.1.set_ 1 (.int .i64 ((k:Int)+1))).far (p:=⟨w.heap.size,0,none⟩) G (.int .i64 x)).far (p:=⟨w.heap.size,1,none⟩) G (.int .i64 L)).far (p:=⟨w.heap.size,2,none⟩) G (.int .i64 J)).far (p:=⟨w.heap.size,3,none⟩) G (.string D);exact T
     ·have j:=hid (E.out.trans (if_pos (Or.inr ⟨Q,V⟩)));(have e5:(D.toList==u.toList)=false:=by rw[zAh];simp[V]);clear E Q V;go_wp2;refine⟨rfl,?_⟩;unfold zDt;rw[j.out];exact⟨zA.of_below H.out.1,rfl⟩
   ·(have e2:(x !=e)=true:=by simp[h1]);have j:=hid (E.out.trans (if_pos (Or.inl h1)));clear E;go_wp2;refine⟨rfl,?_⟩;unfold zDt;rw[j.out];exact⟨zA.of_below H.out.1,rfl⟩
structure PsR (P:Nat) (fin:Int) (s:ByteArray) (w:World) (st:PSt):Prop where
 box:∃A cap,Blk w P 202 #[.slice A st.toks.length cap,.int .i64 fin,.int .i64 st.err,.int .i64 st.pos]/\zAt (λc=>c<P) w A cap st.toks
 tin:∀t∈st.toks,zEM s t
theorem PsR.below(h:PsR P fin s w st)(b:Bw w w'):PsR P fin s w' st:=by
 obtain⟨⟨A,cap,a,c⟩,d⟩:=h;exact⟨⟨A,cap,a.below b a.lt,c.keep (.of_below b)⟩,d⟩
theorem PsR.lt(h:PsR P fin s w st):P<w.heap.size:=by
 obtain⟨⟨A,cap,a,b⟩,c⟩:=h;exact a.lt
theorem PsR.keep(h:PsR P fin s w st)(a:zA (λc=>c<=P) w w'):PsR P fin s w' st:=by
 obtain⟨⟨A,cap,d,e⟩,f⟩:=h;exact⟨⟨A,cap,d.keep a (Nat.le_refl _),e.keep (a.mono λb _ g=>Nat.le_of_lt g)⟩,f⟩
theorem zAt.tail{Z:zE}{b off a:Nat}{t:Tok}{r:List Tok}(h:zAt Z w (some ⟨b,off,none⟩) a (t::r)):zAt Z w (some ⟨b,off+4,none⟩) (a-1) r:=by
 have d:=h.le;have o:=h.max;have f:=h.few;simp only[List.length_cons]at d f;refine⟨λi=> ?_,by omega,by omega,by omega⟩;obtain⟨n,c,e,m,g⟩:=h.row (by simp[Tok.cells]);injection e with e;injection e with e1 e2;subst e1 e2;refine⟨b,off+4,rfl,m,λj u k=> ?_⟩;have:=g (4+j) u (by rw[List.flatMap_cons,List.getElem?_append_right (by simp[Tok.cells])];simpa[Tok.cells]using k);rwa[<-Nat.add_assoc]at this
def zN9(P:Nat)(fin:Int)(s:ByteArray)(w:World)(st:PSt)(w':World):Prop:=PsR P fin s w' st/\zA (λc=>c≠P) w w'
theorem zC5(P:Nat)(fin:Int)(s:ByteArray)(st:PSt)(b p:Int)(w:World)(h:PsR P fin s w st):
  Calls prog 123 #[.pointer (some ⟨P,0,none⟩),.int .i64 b,.int .i64 p] w λe w'=>e= .returned (.tuple #[])/\zN9 P fin s w (zAQ st b p) w':=by
 obtain⟨⟨A,cap,a,i⟩,c⟩:=h;have q:=a.at0;have t:=a.at2;have u:=a.at3;have m:=a.frozen 0;have n:=a.frozen 2;have o:=a.frozen 3;have v:=a.lt;have g:=hid a;have j:=hid i;clear a i;by_cases d:st.err=0
 ·have k:(st.err==(0:Int))=true:=by simp[d]
  have f:=hid (show zAQ st b p=⟨[],b,p⟩ from by unfold zAQ;rw[if_pos d]);go_enter func123,ntmps123
  go_wp2;go_end0;rw[f.out];refine⟨rfl,⟨⟨none,0,((g.out.set_ 2 _).set_ 3 _).set_ 0 _,Row.nil,Nat.le_refl _,by omega,by simp⟩,by simp⟩,(((zA.refl _ _).setCell (p:=⟨P,2,none⟩) (λ_ h=>h rfl) _).setCell (p:=⟨P,3,none⟩) (λ_ h=>h rfl) _).setCell (p:=⟨P,0,none⟩) (λ_ h=>h rfl) _⟩
 ·have k:(st.err==(0:Int))=false:=by simp[d]
  have f:=hid (show zAQ st b p=st from by unfold zAQ;rw[if_neg d]);go_enter func123,ntmps123
  go_wp2;go_end0;rw[f.out];exact⟨rfl,⟨⟨A,cap,g.out,j.out⟩,c⟩,zA.refl _ _⟩
theorem zGL(P:Nat)(fin:Int)(s:ByteArray)(st:PSt)(w:World)(h:PsR P fin s w st):
  Calls prog 185 #[.pointer (some ⟨P,0,none⟩)] w λe w'=>e= .returned (zAS (zBQ fin st).1)/\zN9 P fin s w (zBQ fin st).2 w':=by
 have N:=hid h;obtain⟨⟨A,cap,j,d⟩,f⟩:=h;obtain⟨ts,C,n⟩:=st;dsimp only at*;have D:=j.at0;have V:=j.at1;have Q:=j.frozen 0;have pl:=j.lt;have z:=hid j;have B:=hid d;have L:=hid (λ(W:World)(R:PsR P fin s W ⟨ts,C,n⟩)=>zC5 P fin s ⟨ts,C,n⟩ 6 fin W R);have K:=hid (N.out.below (zF w (.cells #[.int .i64 0,.int .i64 0,.int .i64 0,.string ⟨#[]⟩] 102)));have u:=d.few;have le:=d.le;have U:=d.max;clear j d
 cases ts with
 |nil=>
  go_enter func185,ntmps185
  go_wp2_with fail
  refine(L.out _ K.out).mono ?_;rintro e w1 ⟨rfl,m,i⟩;have a:=(Blk.new w 102 #[.int .i64 0,.int .i64 0,.int .i64 0,.string ⟨#[]⟩]).keep i (by omega);have o0:=a.at0;have o1:=a.at1;have o2:=a.at2;have o3:=a.at3;have g0:=a.frozen 0;have g1:=a.frozen 1;have g2:=a.frozen 2;have g3:=a.frozen 3;have ol:=a.lt;have o:=hid ((((a.set_ 0 (.int .i64 0)).set_ 1 (.int .i64 0)).set_ 2 (.int .i64 0)).set_ 3 (.string ⟨#[]⟩));have O:=hid m;have M:=hid i;clear a m i D V Q;go_wp2;have X:=o.out.at0;have E:=o.out.at1;have F:=o.out.at2;have Y:=o.out.at3;refine bodyPost_ret (v:=zAS zCY) (by simp[results,results185,go_sem,X,E,F,Y,zAS,Tok.cells,zCY]) rfl ⟨rfl,O.out.keep ?_,?_⟩
  ·exact((((zA.refl _ _).setCell (p:=⟨w.heap.size,0,none⟩) (λ_(h:w.heap.size<=P)=>by omega) _).setCell (p:=⟨w.heap.size,1,none⟩) (λ_(h:w.heap.size<=P)=>by omega) _).setCell (p:=⟨w.heap.size,2,none⟩) (λ_(h:w.heap.size<=P)=>by omega) _).setCell (p:=⟨w.heap.size,3,none⟩) (λ_(h:w.heap.size<=P)=>by omega) _
  ·exact((((((zA.refl _ w).alloc _).trans M.out).setCell (p:=⟨w.heap.size,0,none⟩) (λh=>absurd h (Nat.lt_irrefl _)) _).setCell (p:=⟨w.heap.size,1,none⟩) (λh=>absurd h (Nat.lt_irrefl _)) _).setCell (p:=⟨w.heap.size,2,none⟩) (λh=>absurd h (Nat.lt_irrefl _)) _).setCell (p:=⟨w.heap.size,3,none⟩) (λh=>absurd h (Nat.lt_irrefl _)) _
 |cons t r=>
  obtain⟨b,y,rfl,T,q,c1,c2,c3⟩:=B.out.at_ (k:=0) (by simp);simp only[Nat.zero_mul,Nat.add_zero,List.getElem_cons_zero]at q c1 c2 c3;simp only[List.length_cons]at D u le;have Z:=lt_of_cell q;have E:(0:Int)<((r.length+1:Nat):Int):=by omega
  have F:(((r.length+1:Nat):Int)==0)=false:=by simp;omega
  have n1:¬b=P:=by have:b<P:=T;omega
  have n2:¬P=w.heap.size:=by omega
  have n3:¬b=w.heap.size:=by omega
  obtain⟨G,I,H,J⟩:=t;dsimp only at q c1 c2 c3;by_cases x:cap=1
  ·subst x;obtain rfl:r=[]:=List.eq_nil_of_length_eq_zero (by omega);have g:=hid (show zAt (λc=>c<P) w (some ⟨b,y,none⟩) 0 [] from⟨Row.nil,Nat.le_refl _,by omega,by simp⟩);(go_enter func185,ntmps185);go_wp2;refine bodyPost_ret (v:=zAS ⟨G,I,H,J⟩) (by simp[results,results185,go_sem,zAS,Tok.cells]) rfl ⟨rfl,?_,?_⟩
   ·exact⟨⟨_,_,((z.out.set_ 0 _).alloc _).alloc _,g.out.keep ((((zA.refl (λc=>c<P) w).setCell (p:=⟨P,0,none⟩) (λ_(h:P<P)=>absurd h (Nat.lt_irrefl _)) _).alloc _).alloc _)⟩,λt d=>f t (List.mem_cons_of_mem _ d)⟩
   ·exact(((zA.refl _ w).setCell (p:=⟨P,0,none⟩) (λ_ h=>h rfl) _).alloc _).alloc _
  ·have g:=hid B.out.tail;(go_enter func185,ntmps185);go_wp2;refine bodyPost_ret (v:=zAS ⟨G,I,H,J⟩) (by simp[results,results185,go_sem,zAS,Tok.cells]) rfl ⟨rfl,?_,?_⟩
   ·exact⟨⟨_,_,((z.out.set_ 0 _).alloc _).alloc _,g.out.keep ((((zA.refl (λc=>c<P) w).setCell (p:=⟨P,0,none⟩) (λ_(h:P<P)=>absurd h (Nat.lt_irrefl _)) _).alloc _).alloc _)⟩,λt d=>f t (List.mem_cons_of_mem _ d)⟩
   ·exact(((zA.refl _ w).setCell (p:=⟨P,0,none⟩) (λ_ h=>h rfl) _).alloc _).alloc _
def zKV(w:World)(res:Except Flt Unit)(e:Ending)(w':World):Prop:=
 Bw w w'/\match res with
 | .error f=>zMO 198 f e
 | .ok _=>e= .returned (.tuple #[])
theorem zFY(a:Bool)(b:Int)(t:Tok)(w:World):
  Calls prog 85 #[.bool a,.int .i64 b,.agg #[.int .i64 t.kind,.int .i64 t.pos,.int .i64 t.num,.string t.text]] w (zKV w (chk a b t)):=by
 obtain⟨c,e,d,f⟩:=t;dsimp only;go_enter func85,ntmps85
 cases a
 ·go_wp2;go_end0;exact⟨zF _ _,rfl⟩
 ·go_wp2;exact⟨rfl,zF _ _,rfl⟩
theorem zAc{α β:Type}(a:α)(f:α->Except Flt β):zj (.ok a) f=f a:=rfl
section
variable {α:Type} {R:Nat} {A:Option Addr} {cap:Nat} {ts:List Tok} {fin:Int} {enc:α->Value} {w w':World} {res:Except Flt (α × List Tok)}
theorem zEx(h:res= .error f)(a:zA (λc=>c≠R) w w'):zDt R A cap ts fin enc w res (.panicked [{v:=zB1 198 f,recovered:=false}]) w':=by
 subst h;exact⟨a,rfl⟩
theorem zPG{x:α}{k':Nat}(h:res= .ok (x,ts.drop k'))(b:zA (λc=>c≠R) w w')(d:k'<=ts.length)(a:RdF w' R A cap ts k' fin)(e:v=enc x):zDt R A cap ts fin enc w res (.returned v) w':=by
 subst h e;exact⟨b,rfl,k',rfl,d,a⟩
theorem zDt.error_(h:zDt R A cap ts fin enc w (.error f) e w'):zA (λc=>c≠R) w w'/\e= .panicked [{v:=zB1 198 f,recovered:=false}]:=h
theorem zDt.ok_{p:α × List Tok}(h:zDt R A cap ts fin enc w (.ok p) e w'):zA (λc=>c≠R) w w'/\e= .returned (enc p.1)/\∃k',p.2=ts.drop k'/\k'<=ts.length/\RdF w' R A cap ts k' fin:=h
end
def zKW(p:Int × Int):Value:= .tuple #[.int .i64 p.1,.int .i64 p.2]
theorem zTD(R:Nat)(A:Option Addr)(m:Nat)(o:List Tok)(fin:Int)(k:Nat)(w:World)(hR:RdF w R A m o k fin)(ht:zAt (λc=>c≠R) w A m o)(hk:k<=o.length):
  Calls prog 83 #[.pointer (some ⟨R,0,none⟩)] w (zDt R A m o fin zKW w (zMI fin (o.drop k))):=by
 have HT:=hid (λ(W:World)(hW:zA (λc=>c≠R) w W)(j:Nat)(hj:j<=o.length)(h:RdF W R A m o j fin)(ah:Int)(tx:ByteArray)=>zN8 R A m o fin j ah tx W h (ht.keep hW) hj)
 have H:=hid (show zMI fin (o.drop k)=(zj (zB7 fin 2 ⟨#[]⟩ (o.drop k)) λlo=>
  zj (chk (decide (1000000<lo.1.num)) 10 lo.1) λ_=>
  zj (zB7 fin 1 ⟨#[116,111]⟩ lo.2) λt=>
  zj (zB7 fin 2 ⟨#[]⟩ t.2) λhi=>
  zj (chk (decide (1000000<hi.1.num)||decide (hi.1.num<lo.1.num)) 10 hi.1) λ_=> .ok ((lo.1.num,hi.1.num),hi.2)) from rfl)
 have rl:=(show Blk w R 153 #[.slice A o.length m,.int .i64 (k:Int),.int .i64 fin] from hR).lt;have HR:=hid hR;clear hR ht;go_enter func83,ntmps83
 go_wp2_with fail
 refine(HT.out w (zA.refl _ _) k hk HR.out 2 ⟨#[]⟩).mono ?_;intro e Y g;generalize zB7 fin 2 ⟨#[]⟩ (o.drop k)=T at*
 cases T with
 |error f=>
  obtain⟨d,rfl⟩:=g.error_;go_wp2;exact⟨rfl,zEx H.out d⟩
 |ok p=>
  obtain⟨d,rfl,k1,hr,ai,n⟩:=g.ok_;obtain⟨⟨lk,lp,G,lt⟩,rr⟩:=p;dsimp only[zAS,Tok.cells]at*;subst hr;simp only[zAc]at H;have s:Bw Y (Y.alloc (.cells #[.int .i64 lk,.int .i64 lp,.int .i64 G,.string lt] 102)):=zF _ _;have ak:=d.size;have aa:=hid (d.trans (zA.of_below s:zA (λc=>c≠R) Y _));have Q:=hid (show RdF _ R A m o k1 fin from Blk.below n s (Nat.lt_of_lt_of_le rl ak));have V:=hid (Blk.new Y 102 #[.int .i64 lk,.int .i64 lp,.int .i64 G,.string lt]);have ag:Y.heap.size≠R:=by omega
  clear g d n HR s;go_wp2_with fail
  generalize Y.alloc (.cells #[.int .i64 lk,.int .i64 lp,.int .i64 G,.string lt] 102)=w2 at*;generalize Y.heap.size=B1 at*;refine(zFY (decide (1000000<G)) 10 ⟨lk,lp,G,lt⟩ _).mono ?_;intro e w3 g;obtain⟨D,g⟩:=g;have J:=hid (aa.out.trans (zA.of_below D:zA (λc=>c≠R) w2 w3));have ab:=hid (show RdF w3 R A m o k1 fin from Blk.below Q.out D (Blk.lt Q.out));have ad:=hid (V.out.below D V.out.lt);clear D aa Q V;generalize chk (decide (1000000<G)) 10 ⟨lk,lp,G,lt⟩=C at*
  cases C with
  |error f=>
   obtain rfl:e= .panicked [{v:=zB1 198 f,recovered:=false}]:=g;go_wp2;exact⟨rfl,zEx H.out J.out⟩
  |ok u=>
   obtain rfl:e= .returned (.tuple #[]):=g;simp only[zAc]at H;(go_wp2_with fail);refine(HT.out w3 J.out k1 ai ab.out 1 ⟨#[116,111]⟩).mono ?_;intro e w4 g;generalize zB7 fin 1 ⟨#[116,111]⟩ (o.drop k1)=T at*
   cases T with
   |error f=>
    obtain⟨d,rfl⟩:=g.error_;go_wp2;exact⟨rfl,zEx H.out (J.out.trans d)⟩
   |ok p=>
    obtain⟨d,rfl,k2,hr,aj,n⟩:=g.ok_;obtain⟨⟨tk,tp,tn,tt⟩,rr⟩:=p;dsimp only[zAS,Tok.cells]at*;subst hr;simp only[zAc]at H;have M:=hid (J.out.trans d);have ac:=hid n;have ae:=hid (ad.out.keep d ag);clear g d n J ab ad;(go_wp2_with fail);refine(HT.out w4 M.out k2 aj ac.out 2 ⟨#[]⟩).mono ?_;intro e Z g;generalize zB7 fin 2 ⟨#[]⟩ (o.drop k2)=T at*
    cases T with
    |error f=>
     obtain⟨d,rfl⟩:=g.error_;go_wp2;exact⟨rfl,zEx H.out (M.out.trans d)⟩
    |ok p=>
     obtain⟨d,rfl,k3,hr,af,n⟩:=g.ok_;obtain⟨⟨y,z,a,B⟩,rr⟩:=p;dsimp only[zAS,Tok.cells]at*;subst hr;simp only[zAc]at H;have s:Bw Z (Z.alloc (.cells #[.int .i64 y,.int .i64 z,.int .i64 a,.string B] 102)):=zF _ _;have X:=ae.out.keep d ag;have q:=hid (X.below s X.lt);have N:=hid ((M.out.trans d).trans (zA.of_below s:zA (λc=>c≠R) Z _));have I:=hid (show RdF _ R A m o k3 fin from Blk.below n s (Blk.lt n));have i:=hid (Blk.new Z 102 #[.int .i64 y,.int .i64 z,.int .i64 a,.string B]);clear g d n M ac ae s X;(go_upto_region 5 with fail);generalize Z.alloc (.cells #[.int .i64 y,.int .i64 z,.int .i64 a,.string B] 102)=w6 at*;generalize Z.heap.size=B2 at*;have x2:=q.out.at2;have xl:=q.out.lt;have y0:=i.out.at0;have y1:=i.out.at1;have y2:=i.out.at2;have y3:=i.out.at3;have yl:=i.out.lt;(have O:∀b:Bool,b=(decide (1000000<a)||decide (a<G))->Calls prog 85 #[.bool b,.int .i64 10,.agg #[.int .i64 y,.int .i64 z,.int .i64 a,.string B]] w6 (zKV w6 (chk (decide (1000000<a)||decide (a<G)) 10 ⟨y,z,a,B⟩)):=λb e=>e▸zFY _ 10 ⟨y,z,a,B⟩ w6);have L:=hid O;clear O;have HB:∃b:Bool,b=(decide (1000000<a)||decide (a<G)):=⟨_,rfl⟩;by_cases q1:1000000<a
     ·have P:=hid (L.out true (by simp[q1]));clear L HB;(go_wp2_with fail);generalize chk (decide (1000000<a)||decide (a<G)) 10 ⟨y,z,a,B⟩=C at*;refine P.out.mono ?_;intro e w7 g;obtain⟨D,g⟩:=g;have K:=hid (N.out.trans (zA.of_below D:zA (λc=>c≠R) w6 w7));have U:=hid (show RdF w7 R A m o k3 fin from Blk.below I.out D (Blk.lt I.out));have E:=q.out.below D q.out.lt;have F:=i.out.below D i.out.lt;clear D N I q i x2 xl y0 y1 y2 y3 yl
      cases C with
      |error f=>
       obtain rfl:e= .panicked [{v:=zB1 198 f,recovered:=false}]:=g;go_wp2;exact⟨rfl,zEx H.out K.out⟩
      |ok u=>
       obtain rfl:e= .returned (.tuple #[]):=g;simp only[zAc]at H;have x2:=E.at2;have y2:=F.at2;have xl:=E.lt;have yl:=F.lt;clear E F;(go_wp2_with fail);go_quiet(fail);go_wp2;go_ret2;exact zPG (x:=(G,a)) (k':=k3) H.out (K.out.drewN _) af (Blk.drewN U.out _) rfl
     ·have P:=hid (L.out (decide (a<G)) (by simp[q1]));clear L HB;(go_wp2_with fail);generalize chk (decide (1000000<a)||decide (a<G)) 10 ⟨y,z,a,B⟩=C at*;refine P.out.mono ?_;intro e w7 g;obtain⟨D,g⟩:=g;have K:=hid (N.out.trans (zA.of_below D:zA (λc=>c≠R) w6 w7));have U:=hid (show RdF w7 R A m o k3 fin from Blk.below I.out D (Blk.lt I.out));have E:=q.out.below D q.out.lt;have F:=i.out.below D i.out.lt;clear D N I q i x2 xl y0 y1 y2 y3 yl
      cases C with
      |error f=>
       obtain rfl:e= .panicked [{v:=zB1 198 f,recovered:=false}]:=g;go_wp2;exact⟨rfl,zEx H.out K.out⟩
      |ok u=>
       obtain rfl:e= .returned (.tuple #[]):=g;simp only[zAc]at H;have x2:=E.at2;have y2:=F.at2;have xl:=E.lt;have yl:=F.lt;clear E F;(go_wp2_with fail);go_quiet(fail);go_wp2;go_ret2;exact zPG (x:=(G,a)) (k':=k3) H.out (K.out.drewN _) af (Blk.drewN U.out _) rfl
end Go.Proofs.YthpocbeoanipbaaGreatDoor
